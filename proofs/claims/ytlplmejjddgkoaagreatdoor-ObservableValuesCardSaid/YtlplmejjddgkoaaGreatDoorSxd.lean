/- Part 4 of the proof. -/
import Derived.Test.YtlplmejjddgkoaaGreatDoorSxa
import Derived.Test.YtlplmejjddgkoaaGreatDoorSxc
import Derived.Lib.Strings
import Derived.Lib.Slices
import Derived.Lib.Walk
import Derived.Lib.Bytealg
import Derived.Test.YtlplmejjddgkoaaGreatDoorProg
set_option linter.unusedVariables false
set_option linter.unusedSimpArgs false
set_option linter.unusedSectionVars false

/- The integers' magnitudes: long division. -/
section
set_option maxRecDepth 100000
open Go Go.Sx Go.Proofs Go.Nov
namespace Go.Proofs.Tryz
attribute [local simp] eqKV eqA eqA0 eqH eqB eqL eqL0
noncomputable def K123 : List Go.Sx.Item := [.code (Tryz.f123.body.getD .skip)]
def G2 : Nat → Option Ctr := fun f => if f = 67 then some (xV) else if f = 138 then some (UC) else if f = 104 then some (yW) else if f = 66 then some (VD) else if f = 139 then some (zbm) else if f = 107 then some (QU) else none
theorem Wp : ∀ g c, G2 g = some c → zc Tryz.prog g c := okIf xm (okIf Uf (okIf QW (okIf JN (okIf UT (okIf Zz (okNone))))))
theorem jg {k : IntKind} {u : List Nat} {off n X : Nat} (hd : dig ((u.drop off).take n)) (hX : val ((u.drop off).take n) = X) : eqG (canon X).length 1 (zj (natG k u) off) (natG k (canon X)) := by
 have h := zB hd
 rw [hX] at h
 have hl := zJ ((u.drop off).take n)
 intro j o hj ho
 simp only [zj, natG, AV.int.injEq, true_and]
 rw [← h] at hj ⊢
 simp only [qr, List.length_take] at hj ⊢
 have hjn : j < n := by simp at hj hl; omega
 have e : (List.take (tlen ((u.drop off).take n)) ((u.drop off).take n)).getD j 0 = ((u.drop off).take n).getD j 0 := by
  simp only [List.getD, List.getElem?_take]
  rw [if_pos (by omega)]
 rw [e, kK _ _ _ _ hjn]
theorem v8 (k : IntKind) (n : Nat) : eqG 1 1 (zk 1 [.int k (n : Int)]) (natG k [n]) := by
 intro j o hj ho
 have : j = 0 := by omega
 have : o = 0 := by omega
 subst_vars; rfl
theorem YW {k : IntKind} {n : Nat} {g : Nat → Nat → AV} {u : List Nat} {off m : Nat} (h : eqG m 1 g (natG k u)) (hm : off + n ≤ m) : eqG n 1 (zj g off) (zj (natG k u) off) := by
 intro j o hj ho
 exact h (off + j) o (by omega) ho
theorem yG {n sz : Nat} {f g h : Nat → Nat → AV} (h1 : eqG n sz f g) (h2 : eqG n sz g h) : eqG n sz f h := fun j o hj ho => (h1 j o hj ho).trans (h2 j o hj ho)
theorem jW {d : Nat} (hd : d < B) : eqG (canon d).length 1 (zj (zk 1 [.int .u32 (d : Int)]) 0) (natG .u32 (canon d)) := by
 have h1 : dig (([d].drop 0).take 1) := by simpa [dig] using hd
 have h2 : val (([d].drop 0).take 1) = d := by simp [val]
 have h3 := jg (k := .u32) h1 h2
 refine yG (YW (v8 .u32 d) ?_) h3
 have := zu (x := d) (n := 1) (by simpa using hd)
 omega
theorem xI {N p : Nat} (hN : (canon p).length ≤ N) : eqG (canon p).length 1 (zj (natG .u32 (padN N p)) 0) (natG .u32 (canon p)) := by
 intro j o hj ho
 simp only [zj, natG, Nat.zero_add, padN, AV.int.injEq, true_and]
 congr 1
 simp only [List.getD]
 rw [List.getElem?_append_left hj]
theorem Um (N p i : Nat) : (padN N p).getD i 0 = (canon p).getD i 0 := by
 simp only [padN, List.getD]
 by_cases h : i < (canon p).length
 ·rw [List.getElem?_append_left h]
 ·rw [List.getElem?_append_right (by omega), List.getElem?_eq_none (show (canon p).length ≤ i by omega)]
  cases hh : (List.replicate (N - (canon p).length) 0)[i - (canon p).length]? with
  | none => rfl
  | some z => have := List.mem_of_getElem? hh; simp at this; simp [this.2]
theorem QX {N p : Nat} (h : (canon p).length ≤ N) : (padN N p).length = N := by simp [padN]; omega
theorem zbs (N p : Nat) : dig (padN N p) := zR.2 ⟨zg _, qq _⟩
theorem xe (x y : Nat) : (canon (x * y)).length ≤ (canon x).length + (canon y).length := by
 have h1 := z8 (zg x)
 have h2 := z8 (zg y)
 rw [zi] at h1 h2
 exact zu (by rw [Nat.pow_add]; exact Nat.mul_lt_mul'' h1 h2)
theorem ZP {d : Nat} (h0 : 0 < d) (hB : d < B) : (canon d).length = 1 := by
 have h1 := zu (x := d) (n := 1) (by simpa using hB)
 have h2 := je (x := d) (n := 0) (by simp; omega)
 omega
def xZ : Ctr := ctr2 false (fun x y => (canon x).length < 100000 ∧ (canon y).length < 100000 ∧ 0 < y) (fun x y (r : Nat × Nat) => r = (x / y, x % y)) (fun _ _ r => (.tup [magS r.1, magS r.2], []))
def SG (x y s k : Nat) : KV := [(0, magS x), (1, magS y), (4, .nils), (8, .int .u32 (s : Int)), (9, .int .i64 (((canon y).length : Nat) : Int)), (10, .osl 1 1 0 k), (11, .undef), (12, .undef), (13, .undef), (15, .undef), (151, .undef), (152, .undef)]
structure IG (x U : Nat) where
 k : Nat
 o : List Nat
 ko : k ≤ o.length
 le : o.length ≤ (canon x).length + 1
 dg : dig (o.take k)
 eq : val (o.take k) = U
def SD (y s V ul ql j : Nat) : KV := [(0, .undef), (1, .undef), (4, .osl 4 1 0 ql), (8, .int .u32 (s : Int)), (9, .int .i64 (((canon y).length : Nat) : Int)), (10, .osl 1 1 0 ul), (11, .osl 3 1 0 (canon V).length), (12, .int .i64 ((j : Int) - 1)), (13, .undef), (15, .undef), (151, .undef), (152, .undef)]
def HD (y V : Nat) (u q : List Nat) : Heap := [.dead, .arr u.length 1 (natG .u32 u), .dead, .arr ((canon y).length + 1) 1 (natG .u32 (padN ((canon y).length + 1) V)), .arr q.length 1 (natG .u32 q)]
structure ID (x y V U : Nat) where
 u : List Nat
 q : List Nat
 j : Nat
 ul : u.length = (canon x).length + 1
 ql : q.length + (canon y).length = (canon x).length + 1
 jq : j ≤ q.length
 du : dig u
 dq : dig q
 eq : U = V * B ^ j * val (q.drop j) + val u
 lt : val u < V * B ^ j
def SC (y s V ul ql j d L i : Nat) : KV := [(0, .undef), (1, .undef), (4, .osl 4 1 0 ql), (8, .int .u32 (s : Int)), (9, .int .i64 (((canon y).length : Nat) : Int)), (10, .osl 1 1 0 ul), (11, .osl 3 1 0 (canon V).length), (12, .int .i64 (j : Int)), (13, .int .u64 (d : Int)), (15, magS L), (151, .int .i64 (((canon y).length + 1 : Nat) : Int)), (152, .int .i64 (i : Int))]
theorem JW {x y s V U m i : Nat} {u q : List Nat} {O : Nat → Prop} {w0 : World} {Q : AV × Heap → Prop} {Hs0 : Nat → KV → Heap → Prop} (hm : (canon y).length = m + 2) (hx : (canon x).length < 100000) (hs0 : 0 < s) (hsB : s < B) (hV1 : V < B ^ (m + 2)) (hV2 : B ^ (m + 2) ≤ 2 * V) (hVl : (canon V).length = m + 2) (hV0 : 0 < V)
  (hul : u.length = (canon x).length + 1) (hql : q.length + (canon y).length = (canon x).length + 1) (hjq : i + 1 ≤ q.length) (hdu : dig u) (hdq : dig q) (heq : U = V * B ^ (i + 1) * val (q.drop (i + 1)) + val u) (hlt : val u < V * B ^ (i + 1)) {W : Nat} (hW : val ((u.drop i).take (m + 2 + 1)) = W) (hWB : W / V < B) (kv : KV) (h : Heap) (hle : LeK 0 Tryz.f123.ntmps kv h (SC y s V u.length q.length i (W / V) (W % V) 0) (HD y V u q)) :
  zb Tryz.prog Tryz.f123 O 0 w0 [] (fun d kv h => if d = 0 then ∃ x' : ID x y V U, x'.j < i + 1 ∧ LeK 0 Tryz.f123.ntmps kv h (SD y s V x'.u.length x'.q.length x'.j) (HD y V x'.u x'.q) else Hs0 d kv h) (RetR xZ 0 Q)
   (.code (.loop (lps (inside (inside K123 0) 0) 0).1) :: (lps (inside (inside K123 0) 0) 0).2) (mk Tryz.f123.ntmps kv h) := by
 have hB : B = 1000000000 := rfl
 have c2 : 0 + (i : Int).toNat = i := by omega
 have hLV := Nat.mod_lt W hV0
 have hLl : (canon (W % V)).length ≤ m + 2 := zu (by omega)
 refine zb.loop (ι := {k : Nat // k ≤ m + 2 + 1}) (fun k => SC y s V u.length q.length i (W / V) (W % V) k.1) (fun k => HD y V (mixL u (canon (W % V)) i k.1) q) (fun k => m + 2 + 1 - k.1) ⟨0, Nat.zero_le _⟩ 1 ?_ ?_ (by kernel_rfl)
 ·simpa only [Ya] using hle
 ·rintro ⟨k, hk⟩
  obtain ⟨L, hL⟩ : ∃ L, W % V = L := ⟨_, rfl⟩
  obtain ⟨d, hd⟩ : ∃ d, W / V = d := ⟨_, rfl⟩
  simp only [hL, hd]
  obtain ⟨u', hu'⟩ : ∃ u', mixL u (canon L) i k = u' := ⟨_, rfl⟩
  have hu'l : u'.length = u.length := by rw [← hu', JR]
  simp only [hu', ← hu'l]
  rw [hL] at hLl hLV
  refine zb.run hmix Wp [0, 1, 4, 8, 9, 10, 11, 12, 13, 15, 151, 152] 400 (T := .ite (decide ((↑k : Int) < (↑(List.length (canon y) + 1) : Int))) (.side (inR .i64 ((↑i : Int) + k)) (.side ((0 : Int) ≤ i + (↑k : Int) ∧ (↑i : Int) + k < (↑(List.length u') : Int)) (.ite (decide ((↑k : Int) < (↑(List.length (canon L)) : Int))) (.side (inR .i64 ((↑i : Int) + k)) (.side ((0 : Int) ≤ k ∧ (↑k : Int) < (↑(List.length (canon L)) : Int)) (.side ((0 : Int) ≤ i + (↑k : Int) ∧ (↑i : Int) + k < (↑(List.length u') : Int)) (.side (inR .i64 ((↑k : Int) + (1 : Int))) (.leaf (.back 1 [(0, .undef), (1, .undef), (4, .osl 4 1 0 q.length), (8, .int .u32 s), (9, .int .i64 (↑(canon y).length : Int)), (10, .osl 1 1 0 (List.length u')), (11, .osl 3 1 0 (List.length (canon V))), (12, .int .i64 i), (13, .int .u64 d), (15, .sl (List.length (canon L)) 1 (natG .u32 (canon L))), (151, .int .i64 (↑(List.length (canon y) + 1) : Int)), (152, .int .i64 ((↑k : Int) + (1 : Int)))] [.dead, .arr (List.length u') 1 (updG (updG (natG .u32 u') (0 + Int.toNat ((↑i : Int) + k)) 0 [.int .u32 0]) (0 + Int.toNat ((↑i : Int) + k)) 0 [.int .u32 (↑(List.getD (canon L) (Int.toNat (↑k : Int)) 0) : Int)]), .dead, .arr (List.length (canon y) + 1) 1 (natG .u32 (padN (List.length (canon y) + 1) V)), .arr q.length 1 (natG .u32 q)])))))) (.side (inR .i64 ((↑k : Int) + (1 : Int))) (.leaf (.back 1 [(0, .undef), (1, .undef), (4, .osl 4 1 0 q.length), (8, .int .u32 s), (9, .int .i64 (↑(canon y).length : Int)), (10, .osl 1 1 0 (List.length u')), (11, .osl 3 1 0 (List.length (canon V))), (12, .int .i64 i), (13, .int .u64 d), (15, .sl (List.length (canon L)) 1 (natG .u32 (canon L))), (151, .int .i64 (↑(List.length (canon y) + 1) : Int)), (152, .int .i64 ((↑k : Int) + (1 : Int)))] [.dead, .arr (List.length u') 1 (updG (natG .u32 u') (0 + Int.toNat ((↑i : Int) + k)) 0 [.int .u32 0]), .dead, .arr (List.length (canon y) + 1) 1 (natG .u32 (padN (List.length (canon y) + 1) V)), .arr q.length 1 (natG .u32 q)])))))) (.side (inR .u32 (↑d : Int)) (.side ((0 : Int) ≤ i ∧ (↑i : Int) < q.length) (.side (inR .i64 ((↑i : Int) - (1 : Int))) (.leaf (.back 0 [(0, .undef), (1, .undef), (4, .osl 4 1 0 q.length), (8, .int .u32 s), (9, .int .i64 (↑(canon y).length : Int)), (10, .osl 1 1 0 (List.length u')), (11, .osl 3 1 0 (List.length (canon V))), (12, .int .i64 ((↑i : Int) - (1 : Int))), (13, .int .u64 d), (15, .sl (List.length (canon L)) 1 (natG .u32 (canon L))), (151, .int .i64 (↑(List.length (canon y) + 1) : Int)), (152, .int .i64 k)] [.dead, .arr (List.length u') 1 (natG .u32 u'), .dead, .arr (List.length (canon y) + 1) 1 (natG .u32 (padN (List.length (canon y) + 1) V)), .arr q.length 1 (updG (natG .u32 q) (0 + Int.toNat (↑i : Int)) 0 [.int .u32 d])])))))) (by kernel_rfl) ?_
  have ek : 0 + ((i : Int) + (k : Int)).toNat = i + k := by omega
  have ek1 : ((k : Int) + 1) = ((k + 1 : Nat) : Int) := by omega
  simp only [Tree.holds, zd, inR, lo, hi, ek, ek1, c2, Int.toNat_natCast]
  refine ⟨fun hlt => ?_, fun hge => ?_⟩
  ·have hlt : k < m + 2 + 1 := by simp at hlt; omega
   have hik : i + k < u'.length := by omega
   refine ⟨by omega, fun _ => ⟨by omega, fun _ => ⟨fun hin => ?_, fun hout => ?_⟩⟩⟩
   ·have hin : k < (canon L).length := by simp at hin; omega
    iterate 4 refine ⟨by omega, fun _ => ?_⟩
    rw [if_pos trivial]
    refine ⟨⟨k + 1, by omega⟩, by show m + 2 + 1 - (k + 1) < m + 2 + 1 - k; omega, by simp [SC, magS, natS, za], ?_, by kernel_rfl, Nat.zero_le _⟩
    have hs2 := JU u (canon L) i k 0
    rw [hu'] at hs2
    simp only [← hs2]
    refine ⟨trivial, ⟨by simp, rfl, ?_⟩, trivial, by simp [za], by simp [za], trivial⟩
    have h1 := jJ (k := .u32) (l := u') (v := 0) (i := i + k) (by omega) hik
    have h2 := jJ (k := .u32) (l := u'.set (i + k) 0) (v := ((canon L).getD k 0 : Nat)) (i := i + k) (by omega) (by simpa using hik)
    simp only [List.length_set, Int.toNat_natCast] at h2
    refine yG ?_ h2
    intro p o hp ho
    have := h1 p o hp ho
    simp only [updG] at this ⊢
    split
    ·rfl
    ·exact this
   ·have hout : (canon L).length ≤ k := by simp at hout; omega
    refine ⟨by omega, fun _ => ?_⟩
    rw [if_pos trivial]
    refine ⟨⟨k + 1, by omega⟩, by show m + 2 + 1 - (k + 1) < m + 2 + 1 - k; omega, by simp [SC, magS, natS, za], ?_, by kernel_rfl, Nat.zero_le _⟩
    have hs2 := JU u (canon L) i k 0
    rw [hu'] at hs2
    have hz : (canon L).getD k 0 = 0 := by simp [List.getD, List.getElem?_eq_none hout]
    rw [hz, List.set_set] at hs2
    simp only [← hs2]
    refine ⟨trivial, ⟨by simp, rfl, ?_⟩, trivial, by simp [za], by simp [za], trivial⟩
    exact jJ (k := .u32) (l := u') (v := 0) (i := i + k) (by omega) hik
  ·have hk : k = m + 2 + 1 := by simp at hge; omega
   subst hk
   have hdB : d < B := hd ▸ hWB
   iterate 3 refine ⟨by omega, fun _ => ?_⟩
   rw [if_neg (by decide), if_pos trivial]
   have hval := zac (u := u) (L := L) (j := i) (k := m + 2 + 1) (by omega) (by omega)
   rw [hu'] at hval
   have hst := step_eq (u := u) (u' := u') (q := q) (j := i) (k := m + 2 + 1) (V := V) (U0 := U) hdu (by omega) (by simpa using hV1) (by omega) hV0 hlt (by omega) heq (by rw [hW, hL]; exact hval)
   rw [hW, hd] at hst
   refine ⟨⟨u', q.set i d, i, by omega, by simpa using hql, by simp; omega, ?_, ux hdq _ hdB, hst.2, hst.1⟩, Nat.lt_succ_self _, by simp [SD, za], ?_, by kernel_rfl, Nat.zero_le _⟩
   ·rw [← hu']; exact UU hdu (zg _) _ _
   ·refine ⟨trivial, ⟨rfl, rfl, za _ _ _⟩, trivial, ⟨rfl, rfl, za _ _ _⟩, ⟨by simp, rfl, ?_⟩, trivial⟩
    have := jJ (k := .u32) (l := q) (v := (d : Int)) (i := i) (by omega) (by omega)
    simpa using this
set_option maxHeartbeats 2000000 in
theorem QO {x y s V U m i : Nat} {u q : List Nat} {O : Nat → Prop} {w0 : World} {Q : AV × Heap → Prop} {Hs0 : Nat → KV → Heap → Prop} (hm : (canon y).length = m + 2) (hx : (canon x).length < 100000) (hs0 : 0 < s) (hsB : s < B) (hV1 : V < B ^ (m + 2)) (hV2 : B ^ (m + 2) ≤ 2 * V) (hVl : (canon V).length = m + 2) (hV0 : 0 < V)
  (hul : u.length = (canon x).length + 1) (hql : q.length + (canon y).length = (canon x).length + 1) (hjq : i + 1 ≤ q.length) (hdu : dig u) (hdq : dig q) (heq : U = V * B ^ (i + 1) * val (q.drop (i + 1)) + val u) (hlt : val u < V * B ^ (i + 1)) :
  zb Tryz.prog Tryz.f123 O 0 w0 [] (fun d kv h => if d = 0 then ∃ x' : ID x y V U, x'.j < i + 1 ∧ LeK 0 Tryz.f123.ntmps kv h (SD y s V x'.u.length x'.q.length x'.j) (HD y V x'.u x'.q) else Hs0 d kv h) (RetR xZ 0 Q) (inside (inside K123 0) 0) (mk Tryz.f123.ntmps (SD y s V u.length q.length (i + 1)) (HD y V u q)) := by
 have hB : B = 1000000000 := rfl
 refine zb.run hmix Wp [0, 1, 4, 8, 9, 10, 11, 12, 13, 15, 151, 152] 400 (T := .ite (decide ((0 : Int) ≤ (↑(i + 1) : Int) - (1 : Int))) (.side (inR .i64 ((↑(i + 1) : Int) - (1 : Int) + (↑(canon y).length : Int))) (.side ((0 : Int) ≤ (↑(i + 1) : Int) - (1 : Int) + (↑(canon y).length : Int) ∧ (↑(i + 1) : Int) - (1 : Int) + (↑(canon y).length : Int) < u.length) (.side (inR .u64 (↑(List.getD u (0 + Int.toNat ((↑(i + 1) : Int) - (1 : Int) + (↑(canon y).length : Int))) 0) : Int)) (.side (inR .i64 ((↑(i + 1) : Int) - (1 : Int) + (↑(canon y).length : Int))) (.side (inR .i64 ((↑(i + 1) : Int) - (1 : Int) + (↑(canon y).length : Int) - (1 : Int))) (.side ((0 : Int) ≤ (↑(i + 1) : Int) - (1 : Int) + (↑(canon y).length : Int) - (1 : Int) ∧ (↑(i + 1) : Int) - (1 : Int) + (↑(canon y).length : Int) - (1 : Int) < u.length) (.side (inR .u64 (↑(List.getD u (0 + Int.toNat ((↑(i + 1) : Int) - (1 : Int) + (↑(canon y).length : Int) - (1 : Int))) 0) : Int)) (.side (inR .i64 ((↑(i + 1) : Int) - (1 : Int) + (↑(canon y).length : Int))) (.side (inR .i64 ((↑(i + 1) : Int) - (1 : Int) + (↑(canon y).length : Int) - (2 : Int))) (.side ((0 : Int) ≤ (↑(i + 1) : Int) - (1 : Int) + (↑(canon y).length : Int) - (2 : Int) ∧ (↑(i + 1) : Int) - (1 : Int) + (↑(canon y).length : Int) - (2 : Int) < u.length) (.side (inR .u64 (↑(List.getD u (0 + Int.toNat ((↑(i + 1) : Int) - (1 : Int) + (↑(canon y).length : Int) - (2 : Int))) 0) : Int)) (.side (inR .i64 ((↑(canon y).length : Int) - (1 : Int))) (.side ((0 : Int) ≤ (↑(canon y).length : Int) - (1 : Int) ∧ (↑(canon y).length : Int) - (1 : Int) < (↑(List.length (canon V)) : Int)) (.side (inR .u64 (↑(List.getD (padN (List.length (canon y) + 1) V) (0 + Int.toNat ((↑(canon y).length : Int) - (1 : Int))) 0) : Int)) (.side (inR .i64 ((↑(canon y).length : Int) - (2 : Int))) (.side ((0 : Int) ≤ (↑(canon y).length : Int) - (2 : Int) ∧ (↑(canon y).length : Int) - (2 : Int) < (↑(List.length (canon V)) : Int)) (.side (inR .u64 (↑(List.getD (padN (List.length (canon y) + 1) V) (0 + Int.toNat ((↑(canon y).length : Int) - (2 : Int))) 0) : Int)) (.ex (fun (x : D5) => eqL [AV.int .u64 (↑(List.getD u (0 + Int.toNat ((↑(i + 1) : Int) - (1 : Int) + (↑(canon y).length : Int))) 0) : Int), AV.int .u64 (↑(List.getD u (0 + Int.toNat ((↑(i + 1) : Int) - (1 : Int) + (↑(canon y).length : Int) - (1 : Int))) 0) : Int), AV.int .u64 (↑(List.getD u (0 + Int.toNat ((↑(i + 1) : Int) - (1 : Int) + (↑(canon y).length : Int) - (2 : Int))) 0) : Int), AV.int .u64 (↑(List.getD (padN (List.length (canon y) + 1) V) (0 + Int.toNat ((↑(canon y).length : Int) - (1 : Int))) 0) : Int), AV.int .u64 (↑(List.getD (padN (List.length (canon y) + 1) V) (0 + Int.toNat ((↑(canon y).length : Int) - (2 : Int))) 0) : Int)] [AV.int .u64 (↑(D5.t x) : Int), AV.int .u64 (↑(D5.u x) : Int), AV.int .u64 (↑(D5.v x) : Int), AV.int .u64 (↑(D5.y x) : Int), AV.int .u64 (↑(D5.z x) : Int)] ∧ D5.t x ≤ D5.y x ∧ D5.u x < 1000000000 ∧ D5.v x < 1000000000 ∧ D5.y x < 1000000000 ∧ D5.z x < 1000000000 ∧ 1000000000 ≤ 2 * D5.y x) fun n => .all (fun (n_1 : Nat) => n_1 = qJ (D5.v n) (D5.y n) (D5.z n) 2 ((D5.t n * 1000000000 + D5.u n) / D5.y n) ((D5.t n * 1000000000 + D5.u n) % D5.y n)) fun n => .side (inR .u32 (↑n : Int)) (.ex (fun (u : List Nat) => u.length = 1 ∧ 1 ≤ 1 ∧ 1 < 4611686018427387904 ∧ eqG 1 1 (zk 1 [AV.int .u32 n]) (natG .u32 u) ∧ dig (List.take 1 (List.drop 0 u))) fun n_1 => .all (fun (x : Nat) => x = val (List.take 1 (List.drop 0 n_1))) fun n_2 => .ex (fun (x : Nat × Nat) => eqL [AV.sl (List.length (canon V)) 1 (zj (natG .u32 (padN (List.length (canon y) + 1) V)) 0), AV.sl (canon n_2).length 1 (zj (zk 1 [AV.int .u32 n]) 0)] [AV.sl (canon x.1).length 1 (natG .u32 (canon x.1)), AV.sl (canon x.2).length 1 (natG .u32 (canon x.2))] ∧ fits x.1 ∧ fits x.2) fun n_3 => .all (fun (p : Nat) => p = n_3.1 * n_3.2) fun n_4 => .side (inR .i64 ((↑(i + 1) : Int) - (1 : Int) + (↑(canon y).length : Int))) (.side (inR .i64 ((↑(i + 1) : Int) - (1 : Int) + (↑(canon y).length : Int) + (1 : Int))) (.side ((0 : Int) ≤ (↑(i + 1) : Int) - (1 : Int) ∧ (↑(i + 1) : Int) - (1 : Int) ≤ (↑(i + 1) : Int) - (1 : Int) + (↑(canon y).length : Int) + (1 : Int) ∧ (↑(i + 1) : Int) - (1 : Int) + (↑(canon y).length : Int) + (1 : Int) ≤ u.length) (.ex (fun (u_1 : List Nat) => u_1.length = u.length ∧ 0 + Int.toNat ((↑(i + 1) : Int) - (1 : Int)) + (Int.toNat ((↑(i + 1) : Int) - (1 : Int) + (↑(canon y).length : Int) + (1 : Int)) - Int.toNat ((↑(i + 1) : Int) - (1 : Int))) ≤ u.length ∧ Int.toNat ((↑(i + 1) : Int) - (1 : Int) + (↑(canon y).length : Int) + (1 : Int)) - Int.toNat ((↑(i + 1) : Int) - (1 : Int)) < 4611686018427387904 ∧ eqG u.length 1 (natG .u32 u) (natG .u32 u_1) ∧ dig (List.take (Int.toNat ((↑(i + 1) : Int) - (1 : Int) + (↑(canon y).length : Int) + (1 : Int)) - Int.toNat ((↑(i + 1) : Int) - (1 : Int))) (List.drop (0 + Int.toNat ((↑(i + 1) : Int) - (1 : Int))) u_1))) fun n_5 => .all (fun (x : Nat) => x = val (List.take (Int.toNat ((↑(i + 1) : Int) - (1 : Int) + (↑(canon y).length : Int) + (1 : Int)) - Int.toNat ((↑(i + 1) : Int) - (1 : Int))) (List.drop (0 + Int.toNat ((↑(i + 1) : Int) - (1 : Int))) n_5))) fun n_6 => .ex (fun (x : Nat × Nat) => eqL [AV.sl (canon n_6).length 1 (zj (natG .u32 u) (0 + Int.toNat ((↑(i + 1) : Int) - (1 : Int)))), AV.sl (canon n_4).length 1 (zj (natG .u32 (padN (List.length (canon n_3.1) + List.length (canon n_3.2)) n_4)) 0)] [AV.sl (canon x.1).length 1 (natG .u32 (canon x.1)), AV.sl (canon x.2).length 1 (natG .u32 (canon x.2))] ∧ fits x.1 ∧ fits x.2) fun n_7 => .all (fun (r : Int) => r = cmp3 n_7.1 n_7.2) fun n_8 => .ite (decide (n_8 < 0)) (.side (inR .u64 ((↑n : Int) - (1 : Int))) (.side (inR .u32 ((↑n : Int) - (1 : Int))) (.ex (fun (u : List Nat) => u.length = 1 ∧ 1 ≤ 1 ∧ 1 < 4611686018427387904 ∧ eqG 1 1 (zk 1 [AV.int .u32 ((↑n : Int) - (1 : Int))]) (natG .u32 u) ∧ dig (List.take 1 (List.drop 0 u))) fun n_9 => .all (fun (x : Nat) => x = val (List.take 1 (List.drop 0 n_9))) fun n_10 => .ex (fun (x : Nat × Nat) => eqL [AV.sl (List.length (canon V)) 1 (zj (natG .u32 (padN (List.length (canon y) + 1) V)) 0), AV.sl (canon n_10).length 1 (zj (zk 1 [AV.int .u32 ((↑n : Int) - (1 : Int))]) 0)] [AV.sl (canon x.1).length 1 (natG .u32 (canon x.1)), AV.sl (canon x.2).length 1 (natG .u32 (canon x.2))] ∧ fits x.1 ∧ fits x.2) fun n_11 => .all (fun (p : Nat) => p = n_11.1 * n_11.2) fun n_12 => .side (inR .i64 ((↑(i + 1) : Int) - (1 : Int) + (↑(canon y).length : Int))) (.side (inR .i64 ((↑(i + 1) : Int) - (1 : Int) + (↑(canon y).length : Int) + (1 : Int))) (.side ((0 : Int) ≤ (↑(i + 1) : Int) - (1 : Int) ∧ (↑(i + 1) : Int) - (1 : Int) ≤ (↑(i + 1) : Int) - (1 : Int) + (↑(canon y).length : Int) + (1 : Int) ∧ (↑(i + 1) : Int) - (1 : Int) + (↑(canon y).length : Int) + (1 : Int) ≤ u.length) (.ex (fun (u_1 : List Nat) => u_1.length = u.length ∧ 0 + Int.toNat ((↑(i + 1) : Int) - (1 : Int)) + (Int.toNat ((↑(i + 1) : Int) - (1 : Int) + (↑(canon y).length : Int) + (1 : Int)) - Int.toNat ((↑(i + 1) : Int) - (1 : Int))) ≤ u.length ∧ Int.toNat ((↑(i + 1) : Int) - (1 : Int) + (↑(canon y).length : Int) + (1 : Int)) - Int.toNat ((↑(i + 1) : Int) - (1 : Int)) < 4611686018427387904 ∧ eqG u.length 1 (natG .u32 u) (natG .u32 u_1) ∧ dig (List.take (Int.toNat ((↑(i + 1) : Int) - (1 : Int) + (↑(canon y).length : Int) + (1 : Int)) - Int.toNat ((↑(i + 1) : Int) - (1 : Int))) (List.drop (0 + Int.toNat ((↑(i + 1) : Int) - (1 : Int))) u_1))) fun n_13 => .all (fun (x : Nat) => x = val (List.take (Int.toNat ((↑(i + 1) : Int) - (1 : Int) + (↑(canon y).length : Int) + (1 : Int)) - Int.toNat ((↑(i + 1) : Int) - (1 : Int))) (List.drop (0 + Int.toNat ((↑(i + 1) : Int) - (1 : Int))) n_13))) fun n_14 => .ex (fun (x : Nat × Nat) => eqL [AV.sl (canon n_14).length 1 (zj (natG .u32 u) (0 + Int.toNat ((↑(i + 1) : Int) - (1 : Int)))), AV.sl (canon n_12).length 1 (zj (natG .u32 (padN (List.length (canon n_11.1) + List.length (canon n_11.2)) n_12)) 0)] [AV.sl (canon x.1).length 1 (natG .u32 (canon x.1)), AV.sl (canon x.2).length 1 (natG .u32 (canon x.2))] ∧ fits x.1 ∧ x.2 ≤ x.1) fun n_15 => .all (fun (d : Nat) => d = n_15.1 - n_15.2) fun n_16 => .side (inR .i64 ((↑(canon y).length : Int) + (1 : Int))) (.leaf (.loop (Prod.fst (lps (inside (inside K123 0) 0) 0)) (Prod.snd (lps (inside (inside K123 0) 0) 0)) [(0, .undef), (1, .undef), (4, .osl 4 1 0 q.length), (8, .int .u32 s), (9, .int .i64 (↑(canon y).length : Int)), (10, .osl 1 1 0 u.length), (11, .osl 3 1 0 (List.length (canon V))), (12, .int .i64 ((↑(i + 1) : Int) - (1 : Int))), (13, .int .u64 ((↑n : Int) - (1 : Int))), (15, .sl (canon n_16).length 1 (natG .u32 (canon n_16))), (151, .int .i64 ((↑(canon y).length : Int) + (1 : Int))), (152, .int .i64 0)] [.dead, .arr u.length 1 (natG .u32 u), .dead, .arr (List.length (canon y) + 1) 1 (natG .u32 (padN (List.length (canon y) + 1) V)), .arr q.length 1 (natG .u32 q), .arr 1 1 (zk 1 [.int .u32 n]), .arr (List.length (canon n_3.1) + List.length (canon n_3.2)) 1 (natG .u32 (padN (List.length (canon n_3.1) + List.length (canon n_3.2)) n_4)), .arr 1 1 (zk 1 [.int .u32 ((↑n : Int) - (1 : Int))]), .arr (List.length (canon n_11.1) + List.length (canon n_11.2)) 1 (natG .u32 (padN (List.length (canon n_11.1) + List.length (canon n_11.2)) n_12))])))))))) (.side (inR .i64 ((↑(i + 1) : Int) - (1 : Int) + (↑(canon y).length : Int))) (.side (inR .i64 ((↑(i + 1) : Int) - (1 : Int) + (↑(canon y).length : Int) + (1 : Int))) (.side ((0 : Int) ≤ (↑(i + 1) : Int) - (1 : Int) ∧ (↑(i + 1) : Int) - (1 : Int) ≤ (↑(i + 1) : Int) - (1 : Int) + (↑(canon y).length : Int) + (1 : Int) ∧ (↑(i + 1) : Int) - (1 : Int) + (↑(canon y).length : Int) + (1 : Int) ≤ u.length) (.ex (fun (u_1 : List Nat) => u_1.length = u.length ∧ 0 + Int.toNat ((↑(i + 1) : Int) - (1 : Int)) + (Int.toNat ((↑(i + 1) : Int) - (1 : Int) + (↑(canon y).length : Int) + (1 : Int)) - Int.toNat ((↑(i + 1) : Int) - (1 : Int))) ≤ u.length ∧ Int.toNat ((↑(i + 1) : Int) - (1 : Int) + (↑(canon y).length : Int) + (1 : Int)) - Int.toNat ((↑(i + 1) : Int) - (1 : Int)) < 4611686018427387904 ∧ eqG u.length 1 (natG .u32 u) (natG .u32 u_1) ∧ dig (List.take (Int.toNat ((↑(i + 1) : Int) - (1 : Int) + (↑(canon y).length : Int) + (1 : Int)) - Int.toNat ((↑(i + 1) : Int) - (1 : Int))) (List.drop (0 + Int.toNat ((↑(i + 1) : Int) - (1 : Int))) u_1))) fun n_9 => .all (fun (x : Nat) => x = val (List.take (Int.toNat ((↑(i + 1) : Int) - (1 : Int) + (↑(canon y).length : Int) + (1 : Int)) - Int.toNat ((↑(i + 1) : Int) - (1 : Int))) (List.drop (0 + Int.toNat ((↑(i + 1) : Int) - (1 : Int))) n_9))) fun n_10 => .ex (fun (x : Nat × Nat) => eqL [AV.sl (canon n_10).length 1 (zj (natG .u32 u) (0 + Int.toNat ((↑(i + 1) : Int) - (1 : Int)))), AV.sl (canon n_4).length 1 (zj (natG .u32 (padN (List.length (canon n_3.1) + List.length (canon n_3.2)) n_4)) 0)] [AV.sl (canon x.1).length 1 (natG .u32 (canon x.1)), AV.sl (canon x.2).length 1 (natG .u32 (canon x.2))] ∧ fits x.1 ∧ x.2 ≤ x.1) fun n_11 => .all (fun (d : Nat) => d = n_11.1 - n_11.2) fun n_12 => .side (inR .i64 ((↑(canon y).length : Int) + (1 : Int))) (.leaf (.loop (Prod.fst (lps (inside (inside K123 0) 0) 0)) (Prod.snd (lps (inside (inside K123 0) 0) 0)) [(0, .undef), (1, .undef), (4, .osl 4 1 0 q.length), (8, .int .u32 s), (9, .int .i64 (↑(canon y).length : Int)), (10, .osl 1 1 0 u.length), (11, .osl 3 1 0 (List.length (canon V))), (12, .int .i64 ((↑(i + 1) : Int) - (1 : Int))), (13, .int .u64 n), (15, .sl (canon n_12).length 1 (natG .u32 (canon n_12))), (151, .int .i64 ((↑(canon y).length : Int) + (1 : Int))), (152, .int .i64 0)] [.dead, .arr u.length 1 (natG .u32 u), .dead, .arr (List.length (canon y) + 1) 1 (natG .u32 (padN (List.length (canon y) + 1) V)), .arr q.length 1 (natG .u32 q), .arr 1 1 (zk 1 [.int .u32 n]), .arr (List.length (canon n_3.1) + List.length (canon n_3.2)) 1 (natG .u32 (padN (List.length (canon n_3.1) + List.length (canon n_3.2)) n_4))])))))))))))))))))))))))))))) (.ex (fun (u_1 : List Nat) => u_1.length = u.length ∧ 0 + u.length ≤ u.length ∧ u.length < 4611686018427387904 ∧ eqG u.length 1 (natG .u32 u) (natG .u32 u_1) ∧ dig (List.take u.length (List.drop 0 u_1))) fun n => .all (fun (x : Nat) => x = val (List.take u.length (List.drop 0 n))) fun n => .ex (fun (x : Nat × Nat) => eqL [AV.sl (canon n).length 1 (zj (natG .u32 u) 0), AV.int .u32 s] [AV.sl (canon x.1).length 1 (natG .u32 (canon x.1)), AV.int .u32 x.2] ∧ fits x.1 ∧ 0 < x.2 ∧ x.2 < 1000000000) fun n => .all (fun (r : Nat × Nat) => r = (n.1 / n.2, n.1 % n.2)) fun n => .ex (fun (u : List Nat) => u.length = q.length ∧ 0 + q.length ≤ q.length ∧ q.length < 4611686018427387904 ∧ eqG q.length 1 (natG .u32 q) (natG .u32 u) ∧ dig (List.take q.length (List.drop 0 u))) fun n_1 => .all (fun (x : Nat) => x = val (List.take q.length (List.drop 0 n_1))) fun n_2 => .leaf (.ret [.osl 4 1 0 (canon n_2).length, .sl (canon n.1).length 1 (natG .u32 (canon n.1))] [.dead, .arr u.length 1 (natG .u32 u), .dead, .arr (List.length (canon y) + 1) 1 (natG .u32 (padN (List.length (canon y) + 1) V)), .arr q.length 1 (natG .u32 q)]))) (by kernel_rfl) ?_
 simp only [Tree.holds, zd, inR, lo, hi]
 refine ⟨fun hj => ?_, fun hj => by simp at hj⟩
 have ej : (((i + 1 : Nat) : Int) - 1) = (i : Int) := by omega
 have a1 : 0 + ((i : Int) + ((canon y).length : Int)).toNat = i + (m + 2) := by omega
 have a2 : 0 + ((i : Int) + ((canon y).length : Int) - 1).toNat = i + (m + 1) := by omega
 have a3 : 0 + ((i : Int) + ((canon y).length : Int) - 2).toNat = i + m := by omega
 have b1 : 0 + (((canon y).length : Int) - 1).toNat = m + 1 := by omega
 have b2 : 0 + (((canon y).length : Int) - 2).toNat = m := by omega
 have c1 : ((i : Int) + ((canon y).length : Int) + 1).toNat - (i : Int).toNat = m + 2 + 1 := by omega
 have c2 : 0 + (i : Int).toNat = i := by omega
 simp only [ej, a1, a2, a3, b1, b2, c1, c2, Um]
 have hu1 := zz hdu (i + (m + 2))
 have hu2 := zz hdu (i + (m + 1))
 have hu3 := zz hdu (i + m)
 have hv1 := zz (zg V) (m + 1)
 have hv2 := zz (zg V) m
 iterate 17 refine ⟨by omega, fun _ => ?_⟩
 obtain ⟨W, hW⟩ : ∃ W, val ((u.drop i).take (m + 2 + 1)) = W := ⟨_, rfl⟩
 have hdw : dig ((u.drop i).take (m + 2 + 1)) := qC (Zw hdu _) _
 have hWl : (canon W).length ≤ m + 2 + 1 := by
  refine zu ?_
  have := z8 hdw
  rw [hW, List.length_take] at this
  exact Nat.lt_of_lt_of_le this (Nat.pow_le_pow_right (by decide) (Nat.min_le_left _ _))
 obtain ⟨g1, g2, g3, g4, g5, g6⟩ := YM hdu (by omega) hVl hV2 hlt hW rfl
 refine ⟨⟨u.getD (i + (m + 2)) 0, u.getD (i + (m + 1)) 0, u.getD (i + m) 0, (canon V).getD (m + 1) 0, (canon V).getD m 0⟩, ⟨by simp, g3, hu2, hu3, hv1, hv2, g2⟩, ⟨_, rfl⟩, ?_⟩
 intro d hd
 simp only at hd
 rw [← hd] at g4 g5 g6
 clear hd
 have hWVB : W / V < B := by omega
 have fin := JW (x := x) (y := y) (s := s) (V := V) (U := U) (O := O) (w0 := w0) (Q := Q) (Hs0 := Hs0) hm hx hs0 hsB hV1 hV2 hVl hV0 hul hql hjq hdu hdq heq hlt hW hWVB
 have hdm := Nat.div_add_mod W V
 have hmlt := Nat.mod_lt W hV0
 have hul2 : i + (m + 2 + 1) ≤ u.length := by omega
 have hul3 : u.length < 100002 := by omega
 clear heq hlt hul hql hjq hdq hx hs0 hsB hV2 g1 g2 g3 hu1 hu2 hu3 hv1 hv2 hj a1 a2 a3 b1 b2
 generalize W / V = qd at *
 generalize W % V = rm at *
 refine ⟨by omega, fun _ => ?_⟩
 refine ⟨[d], ⟨rfl, by omega, by omega, v8 _ _, by simpa [dig] using g6⟩, ⟨_, rfl⟩, ?_⟩
 intro D hD
 have hD : D = d := by simpa [val] using hD
 subst hD
 have hdl := zu (x := D) (n := 1) (by simpa using g6)
 refine ⟨(V, D), ⟨?_, by simp only [fits]; omega, by simp only [fits]; omega⟩, ⟨_, rfl⟩, ?_⟩
 ·simp only [eqL, eqA, eqA0, true_and, and_true]
  exact ⟨xI (by omega), jW g6⟩
 intro p hp
 simp only at hp ⊢
 have hpl := xe V D
 rw [← hp] at hpl
 iterate 3 refine ⟨by omega, fun _ => ?_⟩
 refine ⟨u, ⟨rfl, hul2, by omega, za _ _ _, hdw⟩, ⟨_, rfl⟩, ?_⟩
 intro W' hW'
 have hW' : W' = W := hW'.trans hW
 subst hW'
 refine ⟨(W', p), ⟨?_, by simp only [fits]; omega, by simp only [fits]; omega⟩, ⟨_, rfl⟩, ?_⟩
 ·simp only [eqL, eqA, eqA0, true_and, and_true]
  exact ⟨jg hdw hW, xI hpl⟩
 rintro c rfl
 refine ⟨fun hlt2 => ?_, fun hge2 => ?_⟩
 ·have hlt2 : W' < p := by
   simp only [cmp3, decide_eq_true_eq] at hlt2
   rcases Nat.lt_or_ge W' p with h | h
   ·exact h
   ·rw [if_neg (by omega)] at hlt2; split at hlt2 <;> omega
  have hDQ : D = qd + 1 := by
   rcases Nat.lt_or_ge qd D with h | h
   ·omega
   ·have : V * D ≤ V * qd := Nat.mul_le_mul_left _ h
    omega
  have e3 : ((D : Int) - 1) = ((qd : Nat) : Int) := by omega
  simp only [e3]
  have hQl := zu (x := qd) (n := 1) (by simpa using hWVB)
  iterate 2 refine ⟨by omega, fun _ => ?_⟩
  refine ⟨[qd], ⟨rfl, by omega, by omega, v8 _ _, by simpa [dig] using hWVB⟩, ⟨_, rfl⟩, ?_⟩
  intro E hE
  have hE : E = qd := by simpa [val] using hE
  subst hE
  refine ⟨(V, E), ⟨?_, by simp only [fits]; omega, by simp only [fits]; omega⟩, ⟨_, rfl⟩, ?_⟩
  ·simp only [eqL, eqA, eqA0, true_and, and_true]
   exact ⟨xI (by omega), jW hWVB⟩
  intro p2 hp2
  simp only at hp2 ⊢
  have hp2l := xe V E
  rw [← hp2] at hp2l
  iterate 3 refine ⟨by omega, fun _ => ?_⟩
  refine ⟨u, ⟨rfl, hul2, by omega, za _ _ _, hdw⟩, ⟨_, rfl⟩, ?_⟩
  intro W2 hW2
  have hW2 : W2 = W' := hW2.trans hW
  subst hW2
  refine ⟨(W2, p2), ⟨?_, by simp only [fits]; omega, by simp only; omega⟩, ⟨_, rfl⟩, ?_⟩
  ·simp only [eqL, eqA, eqA0, true_and, and_true]
   exact ⟨jg hdw hW, xI hp2l⟩
  intro L hL
  simp only at hL ⊢
  have hL : L = rm := by omega
  subst hL
  refine ⟨by omega, fun _ => ?_⟩
  refine fin _ _ ⟨by simp [SC, magS, natS, za, hVl], ?_, by kernel_rfl, Nat.zero_le _⟩
  simp [HD, za]
 ·have hge2 : p ≤ W' := by
   simp only [cmp3, decide_eq_false_iff_not] at hge2
   rcases Nat.lt_or_ge W' p with h | h
   ·rw [if_pos h] at hge2; omega
   ·exact h
  have hDQ : D = qd := by
   rcases Nat.lt_or_ge qd D with h | h
   ·have : V * (qd + 1) ≤ V * D := Nat.mul_le_mul_left _ h
    rw [Nat.mul_add] at this
    omega
   ·omega
  subst hDQ
  iterate 3 refine ⟨by omega, fun _ => ?_⟩
  refine ⟨u, ⟨rfl, hul2, by omega, za _ _ _, hdw⟩, ⟨_, rfl⟩, ?_⟩
  intro W2 hW2
  have hW2 : W2 = W' := hW2.trans hW
  subst hW2
  refine ⟨(W2, p), ⟨?_, by simp only [fits]; omega, hge2⟩, ⟨_, rfl⟩, ?_⟩
  ·simp only [eqL, eqA, eqA0, true_and, and_true]
   exact ⟨jg hdw hW, xI hpl⟩
  intro L hL
  simp only at hL ⊢
  have hL : L = rm := by omega
  subst hL
  refine ⟨by omega, fun _ => ?_⟩
  refine fin _ _ ⟨by simp [SC, magS, natS, za, hVl], ?_, by kernel_rfl, Nat.zero_le _⟩
  simp [HD, za]
set_option maxHeartbeats 4000000 in
theorem Ql : zc Tryz.prog 123 xZ := by
 refine ym (fn := Tryz.f123) (c := Tryz.f123.body.getD .skip) rfl rfl rfl fun x y hp O w0 Q hq => ?_
 replace hq := hq _ rfl
 obtain ⟨hx, hy, hy0⟩ := hp
 simp only at hq
 have hB : B = 1000000000 := rfl
 refine zb.run hmix Wp [0, 1, 4, 8, 9, 10, 11, 12, 13, 15, 151, 152] 400 (T := .ex (fun (x_1 : Nat × Nat) => eqL [AV.sl (canon x).length 1 (natG .u32 (canon x)), AV.sl (canon y).length 1 (natG .u32 (canon y))] [AV.sl (canon x_1.1).length 1 (natG .u32 (canon x_1.1)), AV.sl (canon x_1.2).length 1 (natG .u32 (canon x_1.2))] ∧ fits x_1.1 ∧ fits x_1.2) fun n => .all (fun (r : Int) => r = cmp3 n.1 n.2) fun n => .ite (decide (n < 0)) (.leaf (.ret [.nils, .sl (canon x).length 1 (natG .u32 (canon x))] [])) (.ite (decide ((↑(canon y).length : Int) = 1)) (.side ((0 : Int) ≤ 0 ∧ (0 : Int) < (↑(canon y).length : Int)) (.ex (fun (x_1 : Nat × Nat) => eqL [AV.sl (canon x).length 1 (natG .u32 (canon x)), AV.int .u32 (↑(List.getD (canon y) 0 0) : Int)] [AV.sl (canon x_1.1).length 1 (natG .u32 (canon x_1.1)), AV.int .u32 x_1.2] ∧ fits x_1.1 ∧ 0 < x_1.2 ∧ x_1.2 < 1000000000) fun n => .all (fun (r : Nat × Nat) => r = (n.1 / n.2, n.1 % n.2)) fun n => .ex (fun (u : List Nat) => u.length = 1 ∧ 1 ≤ 1 ∧ 1 < 4611686018427387904 ∧ eqG 1 1 (zk 1 [AV.int .u32 n.2]) (natG .u32 u) ∧ dig (List.take 1 (List.drop 0 u))) fun n_1 => .all (fun (x : Nat) => x = val (List.take 1 (List.drop 0 n_1))) fun n_2 => .leaf (.ret [.sl (canon n.1).length 1 (natG .u32 (canon n.1)), .osl 0 1 0 (canon n_2).length] [.arr 1 1 (zk 1 [.int .u32 n.2])]))) (.side (inR .i64 ((↑(canon y).length : Int) - (1 : Int))) (.side ((0 : Int) ≤ (↑(canon y).length : Int) - (1 : Int) ∧ (↑(canon y).length : Int) - (1 : Int) < (↑(canon y).length : Int)) (.side (inR .u64 (↑(List.getD (canon y) (Int.toNat ((↑(canon y).length : Int) - (1 : Int))) 0) : Int)) (.side (inR .u64 ((↑(List.getD (canon y) (Int.toNat ((↑(canon y).length : Int) - (1 : Int))) 0) : Int) + (1 : Int))) (.side ((↑(List.getD (canon y) (Int.toNat ((↑(canon y).length : Int) - (1 : Int))) 0) : Int) + (1 : Int) ≠ 0 ∧ inR .u64 (Int.tdiv (1000000000 : Int) ((↑(List.getD (canon y) (Int.toNat ((↑(canon y).length : Int) - (1 : Int))) 0) : Int) + (1 : Int)))) (.side (inR .u32 (Int.tdiv (1000000000 : Int) ((↑(List.getD (canon y) (Int.toNat ((↑(canon y).length : Int) - (1 : Int))) 0) : Int) + (1 : Int)))) (.ex (fun (x_1 : Nat × Nat) => eqL [AV.sl (canon x).length 1 (natG .u32 (canon x)), AV.sl 1 1 (zj (zk 1 [AV.int .u32 (Int.tdiv (1000000000 : Int) ((↑(List.getD (canon y) (Int.toNat ((↑(canon y).length : Int) - (1 : Int))) 0) : Int) + (1 : Int)))]) 0)] [AV.sl (canon x_1.1).length 1 (natG .u32 (canon x_1.1)), AV.sl (canon x_1.2).length 1 (natG .u32 (canon x_1.2))] ∧ fits x_1.1 ∧ fits x_1.2) fun n => .all (fun (p : Nat) => p = n.1 * n.2) fun n_1 => .leaf (.loop (Prod.fst (lps K123 0)) (Prod.snd (lps K123 0)) [(0, .sl (canon x).length 1 (natG .u32 (canon x))), (1, .sl (canon y).length 1 (natG .u32 (canon y))), (4, .nils), (8, .int .u32 (Int.tdiv (1000000000 : Int) ((↑(List.getD (canon y) (Int.toNat ((↑(canon y).length : Int) - (1 : Int))) 0) : Int) + (1 : Int)))), (9, .int .i64 (↑(canon y).length : Int)), (10, .osl 1 1 0 (canon n_1).length), (11, .undef), (12, .undef), (13, .undef), (15, .undef), (151, .undef), (152, .undef)] [.arr 1 1 (zk 1 [.int .u32 (Int.tdiv (1000000000 : Int) ((↑(List.getD (canon y) (Int.toNat ((↑(canon y).length : Int) - (1 : Int))) 0) : Int) + (1 : Int)))]), .arr (List.length (canon n.1) + List.length (canon n.2)) 1 (natG .u32 (padN (List.length (canon n.1) + List.length (canon n.2)) n_1))])))))))))) (by kernel_rfl) ?_
 simp only [Tree.holds, zd, inR, lo, hi]
 refine ⟨(x, y), ⟨by simp [za], by simp only [fits]; omega, by simp only [fits]; omega⟩, ⟨_, rfl⟩, ?_⟩
 rintro c rfl
 have hyl : 0 < (canon y).length := je (n := 0) (by simp; omega)
 refine ⟨fun hlt => ?_, fun hge => ⟨fun h1 => ⟨by omega, fun _ => ?_⟩, fun hn => ?_⟩⟩
 ·have hxy : x < y := by
   simp only [cmp3, decide_eq_true_eq] at hlt
   rcases Nat.lt_or_ge x y with h | h
   ·exact h
   ·rw [if_neg (by omega)] at hlt; split at hlt <;> omega
  rw [Nat.div_eq_of_lt hxy, Nat.mod_eq_of_lt hxy] at hq
  refine RetR.out0 hq (fun h => by cases h) ?_
  simp [resV, exp2, exp1, exp0, ren0, eqA2, eqL1, magS, natS, zC, za]
 ·have h1 : (canon y).length = 1 := by simp at h1; omega
  have hyd : y = (canon y).getD 0 0 := by
   have := zi y
   obtain ⟨a, ha⟩ := List.length_eq_one_iff.1 h1
   rw [ha] at this ⊢
   simp [val] at this ⊢; omega
  have hyB : y < B := hyd ▸ zz (zg y) 0
  rw [← hyd]
  refine ⟨(x, y), ⟨by simp [za], by simp only [fits]; omega, hy0, hyB⟩, ⟨_, rfl⟩, ?_⟩
  rintro r rfl
  have hm := Nat.mod_lt x hy0
  have hmB : x % y < B := by omega
  refine ⟨[x % y], ⟨rfl, by omega, by omega, v8 _ _, by simpa [dig] using hmB⟩, ⟨_, rfl⟩, ?_⟩
  intro X hX
  have hX : X = x % y := by simpa [val] using hX
  subst hX
  refine RetR.out0 hq (fun h => by cases h) ?_
  simp only [resV, exp2, List.map_cons, List.map_nil, exp1, exp0, ren0, zF, frz1, wa, List.getElem?_cons_zero, if_true, eqA2, eqL1, eqA, eqA0, magS, natS, true_and, and_true]
  exact ⟨za _ _ _, jW hmB⟩
 ·have hn : 2 ≤ (canon y).length := by simp at hn; omega
  obtain ⟨m, hm⟩ : ∃ m, (canon y).length = m + 2 := ⟨(canon y).length - 2, by omega⟩
  have e1 : ((((canon y).length : Nat) : Int) - 1).toNat = m + 1 := by omega
  have hty := zz (zg y) (m + 1)
  have htop : (canon y).getD (m + 1) 0 ≠ 0 := by
   have := zX (canon y) (by rw [qO]; omega)
   rw [qO, hm] at this
   exact this
  have hyv : ∃ r, r < B ^ (m + 1) ∧ y = r + B ^ (m + 1) * (canon y).getD (m + 1) 0 := by
   refine ⟨val ((canon y).take (m + 1)), ?_, ?_⟩
   ·have := z8 (qC (zg y) (m + 1))
    rwa [List.length_take, Nat.min_eq_left (by omega)] at this
   ·have := zh (canon y) (m + 1)
    rwa [List.take_of_length_le (by omega), zi] at this
  rw [e1]
  generalize (canon y).getD (m + 1) 0 = t at hty htop hyv ⊢
  have e2 : Int.tdiv 1000000000 ((t : Int) + 1) = ((B / (t + 1) : Nat) : Int) := by
   have : ((t : Int) + 1) = ((t + 1 : Nat) : Int) := by omega
   rw [this]; rfl
  rw [e2]
  obtain ⟨s, hs⟩ : ∃ s, B / (t + 1) = s := ⟨_, rfl⟩
  obtain ⟨hs0, hs1, hs2⟩ := zap (by omega) hs.symm hty
  rw [hs]
  have hsB : s < B := by
   have : s * 2 ≤ s * (t + 1) := Nat.mul_le_mul_left _ (by omega)
   omega
  obtain ⟨r0, hr0, hyr⟩ := hyv
  obtain ⟨hV1, hV2⟩ := scaled hr0 hyr hs0 hs1 hs2
  refine ⟨by omega, fun _ => ⟨by omega, fun _ => ⟨by omega, fun _ => ⟨by omega, fun _ => ⟨by omega, fun _ => ⟨by omega, fun _ => ?_⟩⟩⟩⟩⟩⟩
  have hsl := ZP hs0 hsB
  refine ⟨(x, s), ⟨?_, by simp only [fits]; omega, by simp only [fits]; omega⟩, ⟨_, rfl⟩, ?_⟩
  ·simp only [eqL, eqA, eqA0, true_and, and_true]
   refine ⟨za _ _ _, hsl.symm, ?_⟩
   have := jW hsB
   rwa [hsl] at this
  intro U hU
  simp only at hU ⊢
  rw [hsl]
  have hxs : U < B ^ ((canon x).length + 1) := by
   have h1 := z8 (zg x)
   rw [zi] at h1
   rw [hU, Nat.pow_succ]
   exact Nat.mul_lt_mul'' h1 hsB
  have hUl := zu hxs
  have hcan : (canon x).length + 1 ≥ m + 2 := by
   rcases Nat.lt_or_ge (canon x).length (m + 1) with h | h
   ·exfalso
    have := zK (x := x) (y := y) (by omega)
    simp [cmp3, this] at hge
   ·omega
  have hylx : (canon y).length ≤ (canon x).length := by
   rcases Nat.lt_or_ge (canon x).length (canon y).length with h | h
   ·exfalso
    have := zK h
    simp [cmp3, this] at hge
   ·exact h
  refine zb.loop (ι := IG x U) (fun i => SG x y s i.k) (fun i => [.dead, .arr i.o.length 1 (natG .u32 i.o)]) (fun i => (canon x).length + 1 - i.k)
   ⟨(canon U).length, padN ((canon x).length + 1) U, by rw [QX hUl]; exact hUl, by rw [QX hUl]; omega, qC (zbs _ _) _, by simp [padN, zi]⟩ 0 ?_ ?_ (by kernel_rfl)
  ·exact ⟨by simp [SG, magS, natS, za], by simp [za, QX hUl], by kernel_rfl, Nat.zero_le _⟩
  ·rintro ⟨k, o, hko, hol, hdo, hvo⟩
   refine zb.run hmix Wp [0, 1, 4, 8, 9, 10, 11, 12, 13, 15, 151, 152] 400 (T := .ite (decide ((↑k : Int) ≤ (↑(canon x).length : Int))) (.side (0 = 0 ∧ k ≤ o.length ∧ (k + 1) * 4 ≤ 140737488355328) (.leaf (.back 0 [(0, .sl (canon x).length 1 (natG .u32 (canon x))), (1, .sl (canon y).length 1 (natG .u32 (canon y))), (4, .nils), (8, .int .u32 s), (9, .int .i64 (↑(canon y).length : Int)), (10, .osl 1 1 0 (k + 1)), (11, .undef), (12, .undef), (13, .undef), (15, .undef), (151, .undef), (152, .undef)] [.dead, .arr (k + 1) 1 (appG k (natG .u32 o) (zj (zk 1 [.int .u32 0]) 0)), .arr 1 1 (zk 1 [.int .u32 0])]))) (.ex (fun (x : Nat × Nat) => eqL [AV.sl (canon y).length 1 (natG .u32 (canon y)), AV.sl 1 1 (zj (zk 1 [AV.int .u32 s]) 0)] [AV.sl (canon x.1).length 1 (natG .u32 (canon x.1)), AV.sl (canon x.2).length 1 (natG .u32 (canon x.2))] ∧ fits x.1 ∧ fits x.2) fun n => .all (fun (p : Nat) => p = n.1 * n.2) fun n_1 => .side (inR .i64 ((↑k : Int) - (↑(canon y).length : Int))) (.side ((0 : Int) ≤ k - (↑(canon y).length : Int) ∧ (↑k : Int) - (↑(canon y).length : Int) ≤ k - (↑(canon y).length : Int) ∧ inR .i64 ((↑k : Int) - (↑(canon y).length : Int)) ∧ Int.toNat ((↑k : Int) - (↑(canon y).length : Int)) * 4 ≤ 140737488355328) (.side (inR .i64 ((↑k : Int) - (↑(canon y).length : Int))) (.side (inR .i64 ((↑k : Int) - (↑(canon y).length : Int) - (1 : Int))) (.leaf (.loop (Prod.fst (lps (inside K123 0) 0)) (Prod.snd (lps (inside K123 0) 0)) [(0, .sl (canon x).length 1 (natG .u32 (canon x))), (1, .sl (canon y).length 1 (natG .u32 (canon y))), (4, .osl 4 1 0 (Int.toNat ((↑k : Int) - (↑(canon y).length : Int)))), (8, .int .u32 s), (9, .int .i64 (↑(canon y).length : Int)), (10, .osl 1 1 0 k), (11, .osl 3 1 0 (canon n_1).length), (12, .int .i64 ((↑k : Int) - (↑(canon y).length : Int) - (1 : Int))), (13, .undef), (15, .undef), (151, .undef), (152, .undef)] [.dead, .arr o.length 1 (natG .u32 o), .arr 1 1 (zk 1 [.int .u32 s]), .arr (List.length (canon n.1) + List.length (canon n.2)) 1 (natG .u32 (padN (List.length (canon n.1) + List.length (canon n.2)) n_1)), .arr (Int.toNat ((↑k : Int) - (↑(canon y).length : Int))) 1 (wU [.int .u32 0])]))))))) (by kernel_rfl) ?_
   simp only [Tree.holds, zd, inR, lo, hi]
   refine ⟨fun hk => ?_, fun hk => ?_⟩
   ·have hk : k ≤ (canon x).length := by simp at hk; omega
    refine ⟨⟨trivial, hko, by omega⟩, fun _ => ?_⟩
    rw [if_pos trivial]
    have hkl : (o.take k).length = k := by rw [List.length_take]; omega
    refine ⟨⟨k + 1, o.take k ++ [0], by simp [hkl], by simp [hkl]; omega, ?_, ?_⟩, by show _ - (k + 1) < _ - k; omega, by simp [SG, magS, natS, za], ?_, by kernel_rfl, Nat.zero_le _⟩
    ·rw [List.take_of_length_le (by simp [hkl])]; exact zR.2 ⟨hdo, by simp [dig]⟩
    ·rw [List.take_of_length_le (by simp [hkl]), zy]; simp [val, hvo]
    ·refine ⟨trivial, ⟨by simp [hkl], rfl, ?_⟩, trivial⟩
     intro j o' hj ho'
     have : o' = 0 := by omega
     subst this
     simp only [appG, zj, zk, natG]
     by_cases h : j < k
     ·rw [if_pos h]
      simp only [List.getD]
      rw [List.getElem?_append_left (by omega), List.getElem?_take, if_pos h]
     ·have : j = k := by omega
      subst this
      rw [if_neg h]
      simp [List.getElem?_append_right, hkl]
   ·have hk : k = (canon x).length + 1 := by simp at hk; omega
    have hok : o.length = (canon x).length + 1 := by omega
    rw [List.take_of_length_le (by omega)] at hdo hvo
    refine ⟨(y, s), ⟨?_, by simp only [fits]; omega, by simp only [fits]; omega⟩, ⟨_, rfl⟩, ?_⟩
    ·simp only [eqL, eqA, eqA0, true_and, and_true]
     refine ⟨za _ _ _, hsl.symm, ?_⟩
     have := jW hsB
     rwa [hsl] at this
    intro V hV
    simp only at hV ⊢
    rw [hsl]
    rw [← hV] at hV1 hV2
    have hVl : (canon V).length = m + 2 := by
     have h1 := zu hV1
     have h2 : B ^ (m + 1) ≤ V := by
      have : B ^ (m + 1 + 1) = B ^ (m + 1) * B := Nat.pow_succ ..
      rw [this] at hV2
      have : B ^ (m + 1) * 2 ≤ B ^ (m + 1) * B := Nat.mul_le_mul_left _ (by decide)
      omega
     have := je h2
     omega
    have hV0 : 0 < V := by
     rcases Nat.eq_zero_or_pos V with h | h
     ·rw [h, zC] at hVl; simp at hVl
     ·exact h
    have eq0 : ((k : Int) - ((canon y).length : Int)).toNat = k - (canon y).length := by omega
    rw [eq0]
    refine ⟨by omega, fun _ => ⟨by omega, fun _ => ⟨by omega, fun _ => ⟨by omega, fun _ => ?_⟩⟩⟩⟩
    have hqe : U / V = x / y ∧ U % V = x % y * s := by
     rw [hU, hV]
     exact ⟨Nat.mul_div_mul_right _ _ hs0, Nat.mul_mod_mul_right _ _ _⟩
    refine zb.loop (ι := ID x y V U) (fun i => SD y s V i.u.length i.q.length i.j) (fun i => HD y V i.u i.q) (fun i => i.j)
     ⟨o, List.replicate (k - (canon y).length) 0, k - (canon y).length, hok, by simp; omega, by simp, hdo, qq _, by simp [val, hvo], ?_⟩ 0 ?_ ?_ (by kernel_rfl)
    ·rw [hvo]
     have h1 : U * 2 ≤ x * B := by
      rw [hU, Nat.mul_assoc]
      refine Nat.mul_le_mul_left _ ?_
      have : s * 2 ≤ s * (t + 1) := Nat.mul_le_mul_left _ (by omega)
      omega
     have h2 : x < B ^ (canon x).length := by have := z8 (zg x); rwa [zi] at this
     have h3 : B ^ (m + 1 + 1) * B ^ (k - (canon y).length) ≤ 2 * V * B ^ (k - (canon y).length) := Nat.mul_le_mul_right _ hV2
     rw [← Nat.pow_add, show m + 1 + 1 + (k - (canon y).length) = (canon x).length + 1 by omega, Nat.pow_succ] at h3
     have h4 : x * B < B ^ (canon x).length * B := Nat.mul_lt_mul_of_pos_right h2 (by decide)
     rw [Nat.mul_assoc] at h3
     omega
    ·refine ⟨?_, ?_, by kernel_rfl, Nat.zero_le _⟩
     ·simp [SD, hVl, hm, hok, hk, za]; omega
     ·simp [HD, za, kQ]
    ·rintro ⟨u, q, j, hul, hql, hjq, hdu, hdq, heq, hlt⟩
     rcases j with _ | i
     ·refine zb.run hmix Wp [0, 1, 4, 8, 9, 10, 11, 12, 13, 15, 151, 152] 400 (T := .ite false (.side (inR .i64 ((-1 : Int) + (↑(canon y).length : Int))) (.side ((0 : Int) ≤ (-1 : Int) + (↑(canon y).length : Int) ∧ (-1 : Int) + (↑(canon y).length : Int) < u.length) (.side (inR .u64 (↑(List.getD u (0 + Int.toNat ((-1 : Int) + (↑(canon y).length : Int))) 0) : Int)) (.side (inR .i64 ((-1 : Int) + (↑(canon y).length : Int))) (.side (inR .i64 ((-1 : Int) + (↑(canon y).length : Int) - (1 : Int))) (.side ((0 : Int) ≤ (-1 : Int) + (↑(canon y).length : Int) - (1 : Int) ∧ (-1 : Int) + (↑(canon y).length : Int) - (1 : Int) < u.length) (.side (inR .u64 (↑(List.getD u (0 + Int.toNat ((-1 : Int) + (↑(canon y).length : Int) - (1 : Int))) 0) : Int)) (.side (inR .i64 ((-1 : Int) + (↑(canon y).length : Int))) (.side (inR .i64 ((-1 : Int) + (↑(canon y).length : Int) - (2 : Int))) (.side ((0 : Int) ≤ (-1 : Int) + (↑(canon y).length : Int) - (2 : Int) ∧ (-1 : Int) + (↑(canon y).length : Int) - (2 : Int) < u.length) (.side (inR .u64 (↑(List.getD u (0 + Int.toNat ((-1 : Int) + (↑(canon y).length : Int) - (2 : Int))) 0) : Int)) (.side (inR .i64 ((↑(canon y).length : Int) - (1 : Int))) (.side ((0 : Int) ≤ (↑(canon y).length : Int) - (1 : Int) ∧ (↑(canon y).length : Int) - (1 : Int) < (↑(List.length (canon V)) : Int)) (.side (inR .u64 (↑(List.getD (padN (List.length (canon y) + 1) V) (0 + Int.toNat ((↑(canon y).length : Int) - (1 : Int))) 0) : Int)) (.side (inR .i64 ((↑(canon y).length : Int) - (2 : Int))) (.side ((0 : Int) ≤ (↑(canon y).length : Int) - (2 : Int) ∧ (↑(canon y).length : Int) - (2 : Int) < (↑(List.length (canon V)) : Int)) (.side (inR .u64 (↑(List.getD (padN (List.length (canon y) + 1) V) (0 + Int.toNat ((↑(canon y).length : Int) - (2 : Int))) 0) : Int)) (.ex (fun (x : D5) => eqL [AV.int .u64 (↑(List.getD u (0 + Int.toNat ((-1 : Int) + (↑(canon y).length : Int))) 0) : Int), AV.int .u64 (↑(List.getD u (0 + Int.toNat ((-1 : Int) + (↑(canon y).length : Int) - (1 : Int))) 0) : Int), AV.int .u64 (↑(List.getD u (0 + Int.toNat ((-1 : Int) + (↑(canon y).length : Int) - (2 : Int))) 0) : Int), AV.int .u64 (↑(List.getD (padN (List.length (canon y) + 1) V) (0 + Int.toNat ((↑(canon y).length : Int) - (1 : Int))) 0) : Int), AV.int .u64 (↑(List.getD (padN (List.length (canon y) + 1) V) (0 + Int.toNat ((↑(canon y).length : Int) - (2 : Int))) 0) : Int)] [AV.int .u64 (↑(D5.t x) : Int), AV.int .u64 (↑(D5.u x) : Int), AV.int .u64 (↑(D5.v x) : Int), AV.int .u64 (↑(D5.y x) : Int), AV.int .u64 (↑(D5.z x) : Int)] ∧ D5.t x ≤ D5.y x ∧ D5.u x < 1000000000 ∧ D5.v x < 1000000000 ∧ D5.y x < 1000000000 ∧ D5.z x < 1000000000 ∧ 1000000000 ≤ 2 * D5.y x) fun n => .all (fun (n_1 : Nat) => n_1 = qJ (D5.v n) (D5.y n) (D5.z n) 2 ((D5.t n * 1000000000 + D5.u n) / D5.y n) ((D5.t n * 1000000000 + D5.u n) % D5.y n)) fun n => .side (inR .u32 (↑n : Int)) (.ex (fun (u : List Nat) => u.length = 1 ∧ 1 ≤ 1 ∧ 1 < 4611686018427387904 ∧ eqG 1 1 (zk 1 [AV.int .u32 n]) (natG .u32 u) ∧ dig (List.take 1 (List.drop 0 u))) fun n_1 => .all (fun (x : Nat) => x = val (List.take 1 (List.drop 0 n_1))) fun n_2 => .ex (fun (x : Nat × Nat) => eqL [AV.sl (List.length (canon V)) 1 (zj (natG .u32 (padN (List.length (canon y) + 1) V)) 0), AV.sl (canon n_2).length 1 (zj (zk 1 [AV.int .u32 n]) 0)] [AV.sl (canon x.1).length 1 (natG .u32 (canon x.1)), AV.sl (canon x.2).length 1 (natG .u32 (canon x.2))] ∧ fits x.1 ∧ fits x.2) fun n_3 => .all (fun (p : Nat) => p = n_3.1 * n_3.2) fun n_4 => .side (inR .i64 ((-1 : Int) + (↑(canon y).length : Int))) (.side (inR .i64 ((-1 : Int) + (↑(canon y).length : Int) + (1 : Int))) (.side ((0 : Int) ≤ (-1 : Int) ∧ (-1 : Int) ≤ (-1 : Int) + (↑(canon y).length : Int) + (1 : Int) ∧ (-1 : Int) + (↑(canon y).length : Int) + (1 : Int) ≤ u.length) (.ex (fun (u_1 : List Nat) => u_1.length = u.length ∧ 0 + (Int.toNat ((-1 : Int) + (↑(canon y).length : Int) + (1 : Int)) - 0) ≤ u.length ∧ Int.toNat ((-1 : Int) + (↑(canon y).length : Int) + (1 : Int)) - 0 < 4611686018427387904 ∧ eqG u.length 1 (natG .u32 u) (natG .u32 u_1) ∧ dig (List.take (Int.toNat ((-1 : Int) + (↑(canon y).length : Int) + (1 : Int)) - 0) (List.drop 0 u_1))) fun n_5 => .all (fun (x : Nat) => x = val (List.take (Int.toNat ((-1 : Int) + (↑(canon y).length : Int) + (1 : Int)) - 0) (List.drop 0 n_5))) fun n_6 => .ex (fun (x : Nat × Nat) => eqL [AV.sl (canon n_6).length 1 (zj (natG .u32 u) 0), AV.sl (canon n_4).length 1 (zj (natG .u32 (padN (List.length (canon n_3.1) + List.length (canon n_3.2)) n_4)) 0)] [AV.sl (canon x.1).length 1 (natG .u32 (canon x.1)), AV.sl (canon x.2).length 1 (natG .u32 (canon x.2))] ∧ fits x.1 ∧ fits x.2) fun n_7 => .all (fun (r : Int) => r = cmp3 n_7.1 n_7.2) fun n_8 => .ite (decide (n_8 < 0)) (.side (inR .u64 ((↑n : Int) - (1 : Int))) (.side (inR .u32 ((↑n : Int) - (1 : Int))) (.ex (fun (u : List Nat) => u.length = 1 ∧ 1 ≤ 1 ∧ 1 < 4611686018427387904 ∧ eqG 1 1 (zk 1 [AV.int .u32 ((↑n : Int) - (1 : Int))]) (natG .u32 u) ∧ dig (List.take 1 (List.drop 0 u))) fun n_9 => .all (fun (x : Nat) => x = val (List.take 1 (List.drop 0 n_9))) fun n_10 => .ex (fun (x : Nat × Nat) => eqL [AV.sl (List.length (canon V)) 1 (zj (natG .u32 (padN (List.length (canon y) + 1) V)) 0), AV.sl (canon n_10).length 1 (zj (zk 1 [AV.int .u32 ((↑n : Int) - (1 : Int))]) 0)] [AV.sl (canon x.1).length 1 (natG .u32 (canon x.1)), AV.sl (canon x.2).length 1 (natG .u32 (canon x.2))] ∧ fits x.1 ∧ fits x.2) fun n_11 => .all (fun (p : Nat) => p = n_11.1 * n_11.2) fun n_12 => .side (inR .i64 ((-1 : Int) + (↑(canon y).length : Int))) (.side (inR .i64 ((-1 : Int) + (↑(canon y).length : Int) + (1 : Int))) (.side ((0 : Int) ≤ (-1 : Int) ∧ (-1 : Int) ≤ (-1 : Int) + (↑(canon y).length : Int) + (1 : Int) ∧ (-1 : Int) + (↑(canon y).length : Int) + (1 : Int) ≤ u.length) (.ex (fun (u_1 : List Nat) => u_1.length = u.length ∧ 0 + (Int.toNat ((-1 : Int) + (↑(canon y).length : Int) + (1 : Int)) - 0) ≤ u.length ∧ Int.toNat ((-1 : Int) + (↑(canon y).length : Int) + (1 : Int)) - 0 < 4611686018427387904 ∧ eqG u.length 1 (natG .u32 u) (natG .u32 u_1) ∧ dig (List.take (Int.toNat ((-1 : Int) + (↑(canon y).length : Int) + (1 : Int)) - 0) (List.drop 0 u_1))) fun n_13 => .all (fun (x : Nat) => x = val (List.take (Int.toNat ((-1 : Int) + (↑(canon y).length : Int) + (1 : Int)) - 0) (List.drop 0 n_13))) fun n_14 => .ex (fun (x : Nat × Nat) => eqL [AV.sl (canon n_14).length 1 (zj (natG .u32 u) 0), AV.sl (canon n_12).length 1 (zj (natG .u32 (padN (List.length (canon n_11.1) + List.length (canon n_11.2)) n_12)) 0)] [AV.sl (canon x.1).length 1 (natG .u32 (canon x.1)), AV.sl (canon x.2).length 1 (natG .u32 (canon x.2))] ∧ fits x.1 ∧ x.2 ≤ x.1) fun n_15 => .all (fun (d : Nat) => d = n_15.1 - n_15.2) fun n_16 => .side (inR .i64 ((↑(canon y).length : Int) + (1 : Int))) (.leaf (.loop (Prod.fst (lps (inside (inside K123 0) 0) 0)) (Prod.snd (lps (inside (inside K123 0) 0) 0)) [(0, .undef), (1, .undef), (4, .osl 4 1 0 q.length), (8, .int .u32 s), (9, .int .i64 (↑(canon y).length : Int)), (10, .osl 1 1 0 u.length), (11, .osl 3 1 0 (List.length (canon V))), (12, .int .i64 (-1 : Int)), (13, .int .u64 ((↑n : Int) - (1 : Int))), (15, .sl (canon n_16).length 1 (natG .u32 (canon n_16))), (151, .int .i64 ((↑(canon y).length : Int) + (1 : Int))), (152, .int .i64 0)] [.dead, .arr u.length 1 (natG .u32 u), .dead, .arr (List.length (canon y) + 1) 1 (natG .u32 (padN (List.length (canon y) + 1) V)), .arr q.length 1 (natG .u32 q), .arr 1 1 (zk 1 [.int .u32 n]), .arr (List.length (canon n_3.1) + List.length (canon n_3.2)) 1 (natG .u32 (padN (List.length (canon n_3.1) + List.length (canon n_3.2)) n_4)), .arr 1 1 (zk 1 [.int .u32 ((↑n : Int) - (1 : Int))]), .arr (List.length (canon n_11.1) + List.length (canon n_11.2)) 1 (natG .u32 (padN (List.length (canon n_11.1) + List.length (canon n_11.2)) n_12))])))))))) (.side (inR .i64 ((-1 : Int) + (↑(canon y).length : Int))) (.side (inR .i64 ((-1 : Int) + (↑(canon y).length : Int) + (1 : Int))) (.side ((0 : Int) ≤ (-1 : Int) ∧ (-1 : Int) ≤ (-1 : Int) + (↑(canon y).length : Int) + (1 : Int) ∧ (-1 : Int) + (↑(canon y).length : Int) + (1 : Int) ≤ u.length) (.ex (fun (u_1 : List Nat) => u_1.length = u.length ∧ 0 + (Int.toNat ((-1 : Int) + (↑(canon y).length : Int) + (1 : Int)) - 0) ≤ u.length ∧ Int.toNat ((-1 : Int) + (↑(canon y).length : Int) + (1 : Int)) - 0 < 4611686018427387904 ∧ eqG u.length 1 (natG .u32 u) (natG .u32 u_1) ∧ dig (List.take (Int.toNat ((-1 : Int) + (↑(canon y).length : Int) + (1 : Int)) - 0) (List.drop 0 u_1))) fun n_9 => .all (fun (x : Nat) => x = val (List.take (Int.toNat ((-1 : Int) + (↑(canon y).length : Int) + (1 : Int)) - 0) (List.drop 0 n_9))) fun n_10 => .ex (fun (x : Nat × Nat) => eqL [AV.sl (canon n_10).length 1 (zj (natG .u32 u) 0), AV.sl (canon n_4).length 1 (zj (natG .u32 (padN (List.length (canon n_3.1) + List.length (canon n_3.2)) n_4)) 0)] [AV.sl (canon x.1).length 1 (natG .u32 (canon x.1)), AV.sl (canon x.2).length 1 (natG .u32 (canon x.2))] ∧ fits x.1 ∧ x.2 ≤ x.1) fun n_11 => .all (fun (d : Nat) => d = n_11.1 - n_11.2) fun n_12 => .side (inR .i64 ((↑(canon y).length : Int) + (1 : Int))) (.leaf (.loop (Prod.fst (lps (inside (inside K123 0) 0) 0)) (Prod.snd (lps (inside (inside K123 0) 0) 0)) [(0, .undef), (1, .undef), (4, .osl 4 1 0 q.length), (8, .int .u32 s), (9, .int .i64 (↑(canon y).length : Int)), (10, .osl 1 1 0 u.length), (11, .osl 3 1 0 (List.length (canon V))), (12, .int .i64 (-1 : Int)), (13, .int .u64 n), (15, .sl (canon n_12).length 1 (natG .u32 (canon n_12))), (151, .int .i64 ((↑(canon y).length : Int) + (1 : Int))), (152, .int .i64 0)] [.dead, .arr u.length 1 (natG .u32 u), .dead, .arr (List.length (canon y) + 1) 1 (natG .u32 (padN (List.length (canon y) + 1) V)), .arr q.length 1 (natG .u32 q), .arr 1 1 (zk 1 [.int .u32 n]), .arr (List.length (canon n_3.1) + List.length (canon n_3.2)) 1 (natG .u32 (padN (List.length (canon n_3.1) + List.length (canon n_3.2)) n_4))])))))))))))))))))))))))))))) (.ex (fun (u_1 : List Nat) => u_1.length = u.length ∧ 0 + u.length ≤ u.length ∧ u.length < 4611686018427387904 ∧ eqG u.length 1 (natG .u32 u) (natG .u32 u_1) ∧ dig (List.take u.length (List.drop 0 u_1))) fun n => .all (fun (x : Nat) => x = val (List.take u.length (List.drop 0 n))) fun n => .ex (fun (x : Nat × Nat) => eqL [AV.sl (canon n).length 1 (zj (natG .u32 u) 0), AV.int .u32 s] [AV.sl (canon x.1).length 1 (natG .u32 (canon x.1)), AV.int .u32 x.2] ∧ fits x.1 ∧ 0 < x.2 ∧ x.2 < 1000000000) fun n => .all (fun (r : Nat × Nat) => r = (n.1 / n.2, n.1 % n.2)) fun n => .ex (fun (u : List Nat) => u.length = q.length ∧ 0 + q.length ≤ q.length ∧ q.length < 4611686018427387904 ∧ eqG q.length 1 (natG .u32 q) (natG .u32 u) ∧ dig (List.take q.length (List.drop 0 u))) fun n_1 => .all (fun (x : Nat) => x = val (List.take q.length (List.drop 0 n_1))) fun n_2 => .leaf (.ret [.osl 4 1 0 (canon n_2).length, .sl (canon n.1).length 1 (natG .u32 (canon n.1))] [.dead, .arr u.length 1 (natG .u32 u), .dead, .arr (List.length (canon y) + 1) 1 (natG .u32 (padN (List.length (canon y) + 1) V)), .arr q.length 1 (natG .u32 q)]))) (by kernel_rfl) ?_
      simp only [Tree.holds, zd, inR, lo, hi]
      refine ⟨fun hj => by simp at hj, fun hj => ?_⟩
      simp only [List.drop_zero, Nat.pow_zero, Nat.mul_one] at heq hlt
      have hdiv : U / V = val q ∧ U % V = val u := by
       rw [heq]
       exact ⟨by rw [Nat.mul_add_div hV0, Nat.div_eq_of_lt hlt, Nat.add_zero], by rw [Nat.mul_add_mod, Nat.mod_eq_of_lt hlt]⟩
      have hqv : val q = x / y := by rw [← hdiv.1, hqe.1]
      have huv : val u = x % y * s := by rw [← hdiv.2, hqe.2]
      refine ⟨u, ⟨rfl, by omega, by omega, za _ _ _, by simpa using hdu⟩, ⟨_, rfl⟩, ?_⟩
      intro X hX
      have hX : X = x % y * s := by simpa [huv] using hX
      have hw : val ((u.drop 0).take u.length) = X := by simp [huv, hX]
      have hXl := jg (k := .u32) (u := u) (off := 0) (n := u.length) (by simpa using hdu) hw
      have hmy := Nat.mod_lt x hy0
      have hXlen : (canon X).length ≤ u.length := by
       refine zu ?_
       rw [hX, ← huv]; exact z8 hdu
      refine ⟨(X, s), ⟨?_, by simp only [fits]; omega, hs0, hsB⟩, ⟨_, rfl⟩, ?_⟩
      ·simp only [eqL, eqA, eqA0, true_and, and_true]
       exact hXl
      rintro r rfl
      have hXs : X / s = x % y := by rw [hX]; exact Nat.mul_div_cancel _ hs0
      simp only [hXs]
      refine ⟨q, ⟨rfl, by omega, by omega, za _ _ _, by simpa using hdq⟩, ⟨_, rfl⟩, ?_⟩
      intro Y hY
      have hY : Y = x / y := by simpa [hqv] using hY
      subst hY
      refine RetR.out0 hq (fun h => by cases h) ?_
      have hw2 : val ((q.drop 0).take q.length) = x / y := by simp [hqv]
      simp only [resV, exp2, List.map_cons, List.map_nil, exp1, exp0, ren0, zF, frz1, wa, List.getElem?_cons_zero, List.getElem?_cons_succ, if_true, eqA2, eqL1, eqA, eqA0, magS, natS, true_and, and_true]
      exact ⟨jg (by simpa using hdq) hw2, za _ _ _⟩
     ·exact QO hm hx hs0 hsB hV1 hV2 hVl hV0 hul hql hjq hdu hdq heq hlt
end Go.Proofs.Tryz
end

/- The integers' texts: reading. -/
section
set_option maxRecDepth 100000
open Go Go.Sx Go.Proofs Go.Nov
namespace Go.Proofs.Tryz
attribute [local simp] eqKV eqA eqA0 eqH eqB eqL eqL0
noncomputable def K129 : List Go.Sx.Item := [.code (Tryz.f129.body.getD .skip)]
noncomputable def K102 : List Go.Sx.Item := [.code (Tryz.f102.body.getD .skip)]
def Kw : Ctr := ctrT false false (fun s : List UInt8 => [.str s]) (fun _ => []) (fun _ => True) (fun _ (_ : Unit) => True) (fun s _ => (.fn 141 [] [.ptr 0 0], [.box [.str s]]))
theorem Ye : zc Tryz.prog 129 Kw := by
 refine zN (fn := Tryz.f129) (c := Tryz.f129.body.getD .skip) rfl rfl rfl (fun h => by cases h) fun s hp O w0 σ0 Q hl hq => ?_
 have h0 : σ0 = [] := List.length_eq_zero_iff.1 (by simpa using hl)
 subst h0
 refine zb.run hmix zo [0] 400 (T := .leaf (.ret [.fn 141 [] [.ptr 0 0]] [.box [.str s]])) (by kernel_rfl) ?_
 simp only [Tree.holds, zd]
 exact RetR.out1 0 (by simp) (hq () trivial) (fun h => by cases h) (by simp [resV, exp2, exp1, exp0, zF, ren0, eqA2]) (by simp [expB, exp1, exp0, ren0])
def G3 : Nat → Option Ctr := fun f => if f = 129 then some (Kw) else if f = 104 then some (yW) else none
theorem Qm : ∀ g c, G3 g = some c → zc Tryz.prog g c := okIf Ye (okIf QW (okNone))
def KR : KV := [(2, .ptr 0 0), (3, .ptr 1 0), (5, .undef), (6, .undef), (16, .fn 141 [] [.ptr 2 0]), (17, .undef), (19, .undef), (20, .undef)]
def HR (neg : Bool) (b : List UInt8) : List Nat → Heap
 | [] => [.box [.bool false, .nils], .box [.bool neg, .nils], .box [.str b]]
 | d :: o => [.box [.bool false, .nils], .box [.bool neg, .osl 4 1 0 (o.length + 1)], .box [.str b], .arr 1 1 (natG .u32 [d]), .arr (o.length + 1) 1 (natG .u32 (d :: o))]
theorem Vc (s : ByteArray) : ∀ e, e ≤ s.size → val ((chunks s e).map decB) = numD (s.data.toList.take e) := by
 intro e
 induction e using Nat.strongRecOn with
 | _ e ih =>
  intro he
  rcases Nat.eq_zero_or_pos e with h | h
  ·subst h; simp [vc, val, numD]
  ·rw [wC s h, List.map_cons, val, ih (e - 9) (by omega) (by omega)]
   have hl : s.data.toList.length = s.size := by rw [Array.length_toList]; rfl
   have h1 : s.data.toList.take e = s.data.toList.take (e - 9) ++ (s.data.toList.take e).drop (e - 9) := by
    conv => lhs; rw [← List.take_append_drop (e - 9) (s.data.toList.take e)]
    rw [List.take_take, Nat.min_eq_left (by omega)]
   rw [h1, wV, decB, xQ, Nat.add_comm, Nat.mul_comm]
   congr 1
   rcases Nat.lt_or_ge e 9 with h9 | h9
   ·rw [show e - 9 = 0 by omega]; simp [numD]
   ·congr 1
    have : ((s.data.toList.take e).drop (e - 9)).length = 9 := by simp; omega
    rw [this]
theorem V0 (s : ByteArray) (hd : allD s.data.toList) : ∀ e, e ≤ s.size → ∀ x ∈ chunks s e, x.size ≤ 9 ∧ allD x.data.toList := by
 intro e
 induction e using Nat.strongRecOn with
 | _ e ih =>
  intro he x hx
  rcases Nat.eq_zero_or_pos e with h | h
  ·subst h; simp [vc] at hx
  ·rw [wC s h] at hx
   rcases List.mem_cons.1 hx with rfl | hx
   ·refine ⟨by rw [ByteArray.size_extract]; omega, ?_⟩
    rw [xQ]
    intro c hc
    exact hd c (List.mem_of_mem_take (List.mem_of_mem_drop hc))
   ·exact ih (e - 9) (by omega) (by omega) x hx
theorem Zg (s : ByteArray) : ∀ e, (chunks s e).length ≤ e := by
 intro e
 induction e using Nat.strongRecOn with
 | _ e ih =>
  rcases Nat.eq_zero_or_pos e with h | h
  ·subst h; simp [vc]
  ·rw [wC s h, List.length_cons]
   have := ih (e - 9) (by omega)
   omega
abbrev Grp : Type := {x : ByteArray // x.size ≤ 9 ∧ allD x.data.toList}
def zbo : Ctr := ctrP false (fun p : Bool × List UInt8 => [.str (sgn p.1 p.2)]) (fun p => allD p.2 ∧ p.2 ≠ [] ∧ p.2.length ≤ 1000000) (fun p r => r = numD p.2) (fun p r => (.agg [.bool p.1, magS r], []))
def SR (x : List UInt8) (v i : Nat) : KV := [(2, .ptr 0 0), (3, .ptr 1 0), (5, .str x), (6, .int .u32 (v : Int)), (16, .undef), (17, .undef), (19, .int .i64 (x.length : Int)), (20, .int .i64 (i : Int))]
theorem XL {O : Nat → Prop} {W : World} {σ1 : List SE} (l : Nat) (neg : Bool) (b : List UInt8) (o : List Nat) (ho : o.length ≤ 1000000) (y : List UInt8) (hxd : allD y) (hx9 : y.length ≤ 9) (X : Prop) (Hx : Heap) :
  qa (some l) Tryz.prog (bare Tryz.f102) O 3 W σ1 (fun d kv' h' => LeK 3 Tryz.f102.ntmps [] h' [] (HR neg b (o ++ [numD y]))) (fun _ h' => X ∧ LeK 3 Tryz.f102.ntmps [] h' [] Hx) (.code (.loop (lps (roundOf K102 0) 0).1) :: (lps (roundOf K102 0) 0).2)
   (mk Tryz.f102.ntmps [(2, .ptr 0 0), (3, .ptr 1 0), (5, .str y), (6, .int .u32 0), (16, .fn 141 [] [.ptr 2 0]), (17, .str y), (19, .int .i64 (y.length : Int)), (20, .int .i64 0)] (HR neg b o)) := by
 refine zb.loop (ι := {i : Nat // i ≤ y.length}) (fun i => SR y (numD (y.take i.1)) i.1) (fun _ => HR neg b o) (fun i => y.length - i.1) ⟨0, Nat.zero_le _⟩ 1 ?_ ?_ (by kernel_rfl)
 ·refine ⟨by simp [SR, numD], ?_, ?_, ?_⟩
  ·cases o <;> simp [HR, za]
  ·cases o <;> kernel_rfl
  ·cases o <;> simp [HR]
 ·rintro ⟨i, hil⟩
  have hbound : numD (y.take i) < 1000000000 := by
   have h1 := kR (l := y.take i) fun c hc => hxd c (List.mem_of_mem_take hc)
   have h2 : 10 ^ (y.take i).length ≤ 10 ^ 9 := Nat.pow_le_pow_right (by decide) (by rw [List.length_take]; omega)
   have h4 : (10 : Nat) ^ 9 = 1000000000 := by decide
   omega
  have hnext : ∀ h : i < y.length, numD (y.take (i + 1)) = numD (y.take i) * 10 + ((y.getD i 0).toNat - 48) := by
   intro h; rw [VK y i h, XV]
  have hdig : i < y.length → 48 ≤ (y.getD i 0).toNat ∧ (y.getD i 0).toNat ≤ 57 := by
   intro h
   have := hxd (y.getD i 0) (by simp [List.getD, h])
   exact this
  have hnb : i < y.length → numD (y.take (i + 1)) < 1000000000 := by
   intro h
   have h1 := kR (l := y.take (i + 1)) fun c hc => hxd c (List.mem_of_mem_take hc)
   have h2 : 10 ^ (y.take (i + 1)).length ≤ 10 ^ 9 := Nat.pow_le_pow_right (by decide) (by rw [List.length_take]; omega)
   have h4 : (10 : Nat) ^ 9 = 1000000000 := by decide
   omega
  obtain ⟨v, hv⟩ : ∃ v, numD (y.take i) = v := ⟨_, rfl⟩
  simp only [hv] at hbound hnext ⊢
  have ei : ((i : Int) + 1) = ((i + 1 : Nat) : Int) := by omega
  cases o with
  | nil =>
   refine zb.run hmix Qm [2, 3, 5, 6, 16, 17, 19, 20] 400 (T := .ite (decide ((↑i : Int) < y.length)) (.side (inR .u32 ((↑v : Int) * (10 : Int))) (.side ((0 : Int) ≤ i ∧ (↑i : Int) < y.length) (.side (inR .u8 ((↑(UInt8.toNat (List.getD y (Int.toNat (↑i : Int)) (0 : UInt8))) : Int) - (48 : Int))) (.side (inR .u32 ((↑(UInt8.toNat (List.getD y (Int.toNat (↑i : Int)) (0 : UInt8))) : Int) - (48 : Int))) (.side (inR .u32 ((↑v : Int) * (10 : Int) + ((↑(UInt8.toNat (List.getD y (Int.toNat (↑i : Int)) (0 : UInt8))) : Int) - (48 : Int)))) (.side (inR .i64 ((↑i : Int) + (1 : Int))) (.leaf (.back 1 [(2, .ptr 0 0), (3, .ptr 1 0), (5, .str y), (6, .int .u32 ((↑v : Int) * (10 : Int) + ((↑(UInt8.toNat (List.getD y (Int.toNat (↑i : Int)) (0 : UInt8))) : Int) - (48 : Int)))), (16, .undef), (17, .undef), (19, .int .i64 y.length), (20, .int .i64 ((↑i : Int) + (1 : Int)))] [.box [.bool false, .nils], .box [.bool neg, .nils], .box [.str b]])))))))) (.side (4 ≤ 140737488355328) (.leaf (.back 0 [(2, .ptr 0 0), (3, .ptr 1 0), (5, .str y), (6, .int .u32 v), (16, .undef), (17, .undef), (19, .int .i64 y.length), (20, .int .i64 i)] [.box [.bool false, .nils], .box [.bool neg, .osl 4 1 0 1], .box [.str b], .arr 1 1 (zk 1 [.int .u32 v]), .arr 1 1 (zj (zk 1 [.int .u32 v]) 0)])))) (by kernel_rfl) ?_
   simp only [Tree.holds, zd, inR, lo, hi, Int.toNat_natCast, ei]
   refine ⟨fun hlt => ?_, fun hge => ?_⟩
   ·have hlt : i < y.length := by simp at hlt; omega
    have h1 := hdig hlt
    have h2 := hnb hlt
    have h3 := hnext hlt
    generalize (y.getD i 0).toNat = c at h1 h3 ⊢
    iterate 6 refine ⟨by omega, fun _ => ?_⟩
    rw [if_pos trivial]
    refine ⟨⟨i + 1, hlt⟩, by show y.length - (i + 1) < y.length - i; omega, ?_, by simp [HR], by kernel_rfl, by simp [HR]⟩
    simp [SR, h3]; omega
   ·have hge : i = y.length := by simp at hge; omega
    subst hge
    rw [List.take_length] at hv
    refine ⟨by omega, fun _ => ?_⟩
    rw [if_neg (by decide), hv]
    refine ⟨by simp, ?_, by kernel_rfl, by simp [HR]⟩
    simp only [List.nil_append, HR]
    refine ⟨by simp, by simp, by simp, ⟨rfl, rfl, v8 _ _⟩, ⟨rfl, rfl, ?_⟩, trivial⟩
    exact fun j o hj ho => by simpa [zj] using v8 .u32 v j o hj ho
  | cons d o =>
   refine zb.run hmix Qm [2, 3, 5, 6, 16, 17, 19, 20] 400 (T := .ite (decide ((↑i : Int) < y.length)) (.side (inR .u32 ((↑v : Int) * (10 : Int))) (.side ((0 : Int) ≤ i ∧ (↑i : Int) < y.length) (.side (inR .u8 ((↑(UInt8.toNat (List.getD y (Int.toNat (↑i : Int)) (0 : UInt8))) : Int) - (48 : Int))) (.side (inR .u32 ((↑(UInt8.toNat (List.getD y (Int.toNat (↑i : Int)) (0 : UInt8))) : Int) - (48 : Int))) (.side (inR .u32 ((↑v : Int) * (10 : Int) + ((↑(UInt8.toNat (List.getD y (Int.toNat (↑i : Int)) (0 : UInt8))) : Int) - (48 : Int)))) (.side (inR .i64 ((↑i : Int) + (1 : Int))) (.leaf (.back 1 [(2, .ptr 0 0), (3, .ptr 1 0), (5, .str y), (6, .int .u32 ((↑v : Int) * (10 : Int) + ((↑(UInt8.toNat (List.getD y (Int.toNat (↑i : Int)) (0 : UInt8))) : Int) - (48 : Int)))), (16, .undef), (17, .undef), (19, .int .i64 y.length), (20, .int .i64 ((↑i : Int) + (1 : Int)))] [.box [.bool false, .nils], .box [.bool neg, .osl 4 1 0 (o.length + 1)], .box [.str b], .arr 1 1 (natG .u32 [d]), .arr (o.length + 1) 1 (natG .u32 (d :: o))])))))))) (.side (0 = 0 ∧ o.length + 1 ≤ o.length + 1 ∧ (o.length + 1 + 1) * 4 ≤ 140737488355328) (.leaf (.back 0 [(2, .ptr 0 0), (3, .ptr 1 0), (5, .str y), (6, .int .u32 v), (16, .undef), (17, .undef), (19, .int .i64 y.length), (20, .int .i64 i)] [.box [.bool false, .nils], .box [.bool neg, .osl 4 1 0 (o.length + 1 + 1)], .box [.str b], .arr 1 1 (natG .u32 [d]), .arr (o.length + 1 + 1) 1 (appG (o.length + 1) (natG .u32 (d :: o)) (zj (zk 1 [.int .u32 v]) 0)), .arr 1 1 (zk 1 [.int .u32 v])])))) (by kernel_rfl) ?_
   simp only [Tree.holds, zd, inR, lo, hi, Int.toNat_natCast, ei]
   refine ⟨fun hlt => ?_, fun hge => ?_⟩
   ·have hlt : i < y.length := by simp at hlt; omega
    have h1 := hdig hlt
    have h2 := hnb hlt
    have h3 := hnext hlt
    generalize (y.getD i 0).toNat = c at h1 h3 ⊢
    iterate 6 refine ⟨by omega, fun _ => ?_⟩
    rw [if_pos trivial]
    refine ⟨⟨i + 1, hlt⟩, by show y.length - (i + 1) < y.length - i; omega, ?_, by simp [HR, za], by kernel_rfl, by simp [HR]⟩
    simp [SR, h3]; omega
   ·have hge : i = y.length := by simp at hge; omega
    subst hge
    rw [List.take_length] at hv
    refine ⟨⟨trivial, Nat.le_refl _, by simp only [List.length_cons] at ho; omega⟩, fun _ => ?_⟩
    rw [if_neg (by decide), hv]
    refine ⟨by simp, ?_, by kernel_rfl, by simp [HR]⟩
    simp only [List.cons_append, HR]
    refine ⟨by simp, by simp, by simp, ⟨rfl, rfl, za _ _ _⟩, ⟨by simp, rfl, ?_⟩, trivial⟩
    have := xU (k := .u32) (l := d :: o) (v := ((v : Nat) : Int)) (by omega)
    simpa using this
theorem WT {O : Nat → Prop} {W : World} {σ1 : List SE} (l : Nat) (neg : Bool) (b : List UInt8) (o : List Nat) (ho : o.length ≤ 1000000) (x : Grp) (X : Prop) (Hx : Heap) :
  qa (some l) Tryz.prog (bare Tryz.f102) O 3 W σ1 (fun d kv' h' => LeK 3 Tryz.f102.ntmps [] h' [] (HR neg b (o ++ [decB x.1]))) (fun _ h' => X ∧ LeK 3 Tryz.f102.ntmps [] h' [] Hx) (roundOf K102 0) (mk Tryz.f102.ntmps ((5, .str x.1.data.toList) :: (17, .str x.1.data.toList) :: KR) (HR neg b o)) := by
 obtain ⟨x, hx9, hxd⟩ := x
 simp only
 have hxl : x.data.toList.length = x.size := by rw [Array.length_toList]; rfl
 have hdB : decB x = numD x.data.toList := rfl
 rw [hdB]
 generalize x.data.toList = y at hxd hxl
 have core : qa (some l) Tryz.prog (bare Tryz.f102) O 3 W σ1 (fun d kv' h' => LeK 3 Tryz.f102.ntmps [] h' [] (HR neg b (o ++ [numD y]))) (fun _ h' => X ∧ LeK 3 Tryz.f102.ntmps [] h' [] Hx) (.code (.loop (lps (roundOf K102 0) 0).1) :: (lps (roundOf K102 0) 0).2)
   (mk Tryz.f102.ntmps [(2, .ptr 0 0), (3, .ptr 1 0), (5, .str y), (6, .int .u32 0), (16, .fn 141 [] [.ptr 2 0]), (17, .str y), (19, .int .i64 (y.length : Int)), (20, .int .i64 0)] (HR neg b o)) := by
  exact XL l neg b o ho y hxd (by omega) X Hx
 cases o with
 | nil =>
  refine zb.run hmix Qm [2, 3, 5, 6, 16, 17, 19, 20] 400 (T := .leaf (.loop (Prod.fst (lps (roundOf K102 0) 0)) (Prod.snd (lps (roundOf K102 0) 0)) [(2, .ptr 0 0), (3, .ptr 1 0), (5, .str y), (6, .int .u32 0), (16, .fn 141 [] [.ptr 2 0]), (17, .str y), (19, .int .i64 y.length), (20, .int .i64 0)] [.box [.bool false, .nils], .box [.bool neg, .nils], .box [.str b]])) (by kernel_rfl) ?_
  simp only [Tree.holds, zd]
  exact core
 | cons d o =>
  refine zb.run hmix Qm [2, 3, 5, 6, 16, 17, 19, 20] 400 (T := .leaf (.loop (Prod.fst (lps (roundOf K102 0) 0)) (Prod.snd (lps (roundOf K102 0) 0)) [(2, .ptr 0 0), (3, .ptr 1 0), (5, .str y), (6, .int .u32 0), (16, .fn 141 [] [.ptr 2 0]), (17, .str y), (19, .int .i64 y.length), (20, .int .i64 0)] [.box [.bool false, .nils], .box [.bool neg, .osl 4 1 0 (o.length + 1)], .box [.str b], .arr 1 1 (natG .u32 [d]), .arr (o.length + 1) 1 (natG .u32 (d :: o))])) (by kernel_rfl) ?_
  simp only [Tree.holds, zd]
  exact core
theorem Ue (neg : Bool) (b : List UInt8) (o : List Nat) : ∀ x ∈ HR neg b o, alive x := by
 cases o with
 | nil => simp [HR, alive]
 | cons d o => simp [HR, alive]
theorem XX {O : Nat → Prop} {w0 : World} {Q : AV × Heap → Prop} (neg : Bool) (b : List UInt8) (hb : allD b) (hb0 : b ≠ []) (hbl : b.length ≤ 1000000) (hq : Q (.agg [.bool neg, magS (numD b)], [])) :
  zb Tryz.prog Tryz.f102 O 0 w0 [] (fun _ _ _ => False) (RetR zbo 0 Q) (.code (rfs K102 0).1 :: (rfs K102 0).2) (mk Tryz.f102.ntmps KR (HR neg b [])) := by
 let s : ByteArray := ⟨b.toArray⟩
 have hsl : s.data.toList = b := rfl
 have hss : s.size = b.length := by simp [s, ByteArray.size]
 refine zb.range (tg := 16) (tp := 17) (td := 5) (α := Grp) (by kernel_rfl) (cap := [.ptr 2 0]) (enters_of Tryz.func141 (by kernel_rfl) rfl) (fun x => .str x.1.data.toList) (fun pre => HR neg b (pre.map fun x => decB x.1)) (fun _ => []) (fun _ => False) (fun xs => xs.map (·.1) = chunks s s.size) (fun pre => pre.map (·.1) <+: chunks s s.size) (chunks s s.size).length 3
  (by kernel_rfl) (by decide +kernel) (by decide +kernel) (fun x t c y h => by cases h) ⟨by simp [KR], by simp [HR], by kernel_rfl, Nat.zero_le _⟩ (by kernel_rfl) (Nat.zero_le _) (fun pre => Ue _ _ _) (fun pre c hc => by cases hc) ?_ ?_ ?_ (fun _ _ h => h.elim)
 ·
  intro w σ a hm vb hvb
  simp only [RepL] at hvb
  obtain ⟨v, r, rfl, hv, rfl⟩ := hvb
  simp only [Rep] at hv
  obtain ⟨e, ad, he, had, rfl⟩ := hv
  have hcell : ∀ (W : World) (σ' : List SE) (o : List Nat), HRep (Go.Sx.Own O σ') W σ' (HR neg b o) → ∀ e' ad, σ'[2]? = some e' → e'.ad = some ad → W.cell? ⟨ad.block, ad.off + 0, none⟩ = some (.string s) := by
   intro W σ' o hp e' ad he' had'
   have hb2 : (HR neg b o)[2]? = some (.box [.str b]) := by cases o <;> rfl
   obtain ⟨ad', vs, el, h1, h2, h3, h4⟩ := hp.blk 2 e' _ he' hb2
   rw [had'] at h1; cases h1
   simp only [RepL, Rep] at h4
   obtain ⟨v, r, rfl, rfl, rfl⟩ := h4
   simp [World.cell?, h3, h2, s]
  refine ⟨fun W => W.cell? ⟨ad.block, ad.off + 0, none⟩ = some (.string s), fun x => .string x.1, ?_, ?_, ?_⟩
  ·exact Tryz.ZN (fun x => x.size ≤ 9 ∧ allD x.data.toList) ⟨ad.block, ad.off + 0, none⟩ s (V0 s (hsl ▸ hb) s.size (Nat.le_refl _)) (by omega) w (hcell w σ [] hm.hp e ad he had)
  ·intro pre W σ' hM
   refine ⟨?_, fun x => by simp [Rep]⟩
   have ht := hM.tm 16
   have h16 : (mk Tryz.f102.ntmps KR (HR neg b (pre.map fun x => decB x.1))).tmps.getD 16 .undef = .fn 141 [] [.ptr 2 0] := by kernel_rfl
   have ht0 := hm.tm 16
   have h160 : (mk Tryz.f102.ntmps KR (HR neg b (([] : List Grp).map fun x => decB x.1))).tmps.getD 16 .undef = .fn 141 [] [.ptr 2 0] := by kernel_rfl
   rw [h16] at ht
   rw [h160] at ht0
   simp only [TRep, Rep, RepL] at ht ht0
   obtain ⟨va, vb', h1, _, v, r, h2, ⟨e1, ad1, h3, h4, h5⟩, h6⟩ := ht
   obtain ⟨va', vb2, g1, _, v', r', g2, ⟨e2, ad2, g3, g4, g5⟩, g6⟩ := ht0
   rw [he] at g3; cases g3
   rw [had] at g4; cases g4
   rw [g1] at h1
   simp only [Value.func.injEq] at h1
   have h7 : vb2 = vb' := by
    have := h1.2.2
    simpa using this
   rw [g2, h2, g5, h5] at h7
   simp only [List.cons.injEq, Value.pointer.injEq, Option.some.injEq] at h7
   have h8 := hcell W σ' _ hM.hp e1 ad1 h3 h4
   rw [← h7.1] at h8
   exact h8
  ·intro W l o o' hl ho hoc hK
   exact VC (grownBy_putObj' W l o') (fun r e => by cases e; exact ⟨o, ho, hoc⟩) hK
 ·
  intro l pre x hlen W σ1
  have hpl : (pre.map fun x => decB x.1).length ≤ 1000000 := by
   have := Zg s s.size
   simp; omega
  have := WT (O := O) (W := W) (σ1 := σ1) l neg b (pre.map fun x => decB x.1) hpl x False []
  simp only [List.map_append, List.map_cons, List.map_nil]
  exact this
 ·
  intro xs hxs
  have ho : xs.map (fun x => decB x.1) = (chunks s s.size).map decB := by rw [← hxs, List.map_map]; rfl
  have hv : val (xs.map fun x => decB x.1) = numD b := by
   rw [ho, Vc s s.size (Nat.le_refl _), List.take_of_length_le (by rw [Array.length_toList]; exact Nat.le_refl _)]
  have hdg : dig (xs.map fun x => decB x.1) := by
   intro d hd
   obtain ⟨x, _, rfl⟩ := List.mem_map.1 hd
   exact zc5 x.2.2 x.2.1
  have hpos : 0 < s.size := by rw [hss]; exact List.length_pos_iff.2 hb0
  have hle : (xs.map fun x => decB x.1).length ≤ 1000000 := by
   rw [ho, List.length_map]
   have := Zg s s.size
   omega
  have hne : xs.map (fun x => decB x.1) ≠ [] := by
   rw [ho, wC s hpos]; simp
  generalize xs.map (fun x => decB x.1) = l at hv hdg hle hne
  cases l with
  | nil => exact absurd rfl hne
  | cons d o =>
   simp only [List.length_cons] at hle
   refine zb.run hmix Qm [2, 3, 5, 6, 16, 17, 19, 20] 400 (T := .ex (fun (u : List Nat) => u.length = o.length + 1 ∧ 0 + (o.length + 1) ≤ o.length + 1 ∧ o.length + 1 < 4611686018427387904 ∧ eqG (o.length + 1) 1 (natG .u32 (d :: o)) (natG .u32 u) ∧ dig (List.take (o.length + 1) (List.drop 0 u))) fun n => .all (fun (x : Nat) => x = val (List.take (o.length + 1) (List.drop 0 n))) fun n => .leaf (.ret [.agg [.bool neg, .osl 4 1 0 (canon n).length]] [.box [.bool neg, .osl 4 1 0 (canon n).length], .box [.bool neg, .osl 4 1 0 (canon n).length], .box [.str b], .arr 1 1 (natG .u32 [d]), .arr (o.length + 1) 1 (natG .u32 (d :: o))])) (by kernel_rfl) ?_
   simp only [Tree.holds, zd]
   have htk : (List.take (o.length + 1) (List.drop 0 (d :: o))) = d :: o := by simp
   refine ⟨d :: o, ⟨rfl, by omega, by omega, za _ _ _, by rw [htk]; exact hdg⟩, ⟨_, rfl⟩, ?_⟩
   intro X hX
   have hX : X = numD b := by rw [htk, hv] at hX; exact hX
   subst hX
   refine RetR.out0 hq (fun h => by cases h) ?_
   simp only [resV, exp2, exp1, List.map_cons, List.map_nil, exp0, ren0, zF, frz1, wa, List.getElem?_cons_zero, List.getElem?_cons_succ, if_true, eqA2, eqA, eqL0, eqA0, magS, natS, true_and, and_true]
   exact jg (u := d :: o) (off := 0) (n := o.length + 1) (by simpa using hdg) (by simpa using hv)
theorem zd3 : zc Tryz.prog 102 zbo := by
 refine ze (fn := Tryz.f102) (c := Tryz.f102.body.getD .skip) rfl rfl rfl fun p hp O w0 Q hq => ?_
 obtain ⟨neg, b⟩ := p
 obtain ⟨hb, hb0, hbl⟩ := hp
 replace hq := hq _ rfl
 simp only at hb hb0 hbl hq
 obtain ⟨s, hs⟩ : ∃ s, sgn neg b = s := ⟨_, rfl⟩
 simp only [hs]
 refine zb.run hmix Qm [2, 3, 5, 6, 16, 17, 19, 20] 400 (T := .side ((0 : Int) ≤ 0 ∧ (0 : Int) < s.length) (.ite (decide ((↑(UInt8.toNat (List.getD s 0 (0 : UInt8))) : Int) = 45)) (.side ((0 : Int) ≤ 1 ∧ (1 : Int) ≤ s.length) (.ex (fun (x : List UInt8) => eqL [AV.str (List.drop 1 (List.take s.length s))] [AV.str x] ∧ eqH [] [] ∧ 0 = 0 ∧ True) fun n => .all (fun (x : Unit) => True) fun n_1 => .leaf (.range (Prod.fst (rfs K102 0)) (Prod.snd (rfs K102 0)) [(2, .ptr 0 0), (3, .ptr 1 0), (5, .undef), (6, .undef), (16, .fn 141 [] [.ptr 2 0]), (17, .undef), (19, .undef), (20, .undef)] [.box [.bool false, .nils], .box [.bool true, .nils], .box [.str n]]))) (.ex (fun (x : List UInt8) => eqL [AV.str s] [AV.str x] ∧ eqH [] [] ∧ 0 = 0 ∧ True) fun n => .all (fun (x : Unit) => True) fun n_1 => .leaf (.range (Prod.fst (rfs K102 0)) (Prod.snd (rfs K102 0)) [(2, .ptr 0 0), (3, .ptr 1 0), (5, .undef), (6, .undef), (16, .fn 141 [] [.ptr 2 0]), (17, .undef), (19, .undef), (20, .undef)] [.box [.bool false, .nils], .box [.bool false, .nils], .box [.str n]])))) (by kernel_rfl) ?_
 subst hs
 have hmain := XX (O := O) (w0 := w0) neg b hb hb0 hbl hq
 obtain ⟨c, b', rfl⟩ := List.exists_cons_of_ne_nil hb0
 have hc := hb c (by simp)
 simp only [Tree.holds, zd]
 cases neg with
 | true =>
  simp only [sgn, if_true]
  refine ⟨by simp; omega, fun _ => ⟨fun _ => ⟨by simp; omega, fun _ => ?_⟩, fun h => by simp at h⟩⟩
  refine ⟨c :: b', ⟨by simp, by simp, by simp⟩, ⟨(), trivial⟩, fun _ _ => hmain⟩
 | false =>
  simp only [sgn, Bool.false_eq_true, if_false]
  refine ⟨by simp, fun _ => ⟨fun h => ?_, fun _ => ?_⟩⟩
  ·simp at h; omega
  ·refine ⟨c :: b', ⟨by simp, by simp, by simp⟩, ⟨(), trivial⟩, fun _ _ => hmain⟩
end Go.Proofs.Tryz
end

/- The integers' texts: writing. -/
section
set_option maxRecDepth 100000
open Go Go.Sx Go.Proofs Go.Nov
namespace Go.Proofs.Tryz
attribute [local simp] eqKV eqA eqA0 eqH eqB eqL eqL0
noncomputable def K103 : List Go.Sx.Item := [.code (Tryz.f103.body.getD .skip)]
noncomputable def K65 : List Go.Sx.Item := [.code (Tryz.f65.body.getD .skip)]
def j4 (l : List Nat) (n i : Nat) : List Nat := (List.range l.length).map fun p => if p < n ∧ (p < i ∨ n - i ≤ p) then l.getD (n - 1 - p) 0 else l.getD p 0
theorem yJ (l : List Nat) (n i : Nat) : (j4 l n i).length = l.length := by simp [j4]
theorem ZX {l : List Nat} {n i p : Nat} (h : p < l.length) : (j4 l n i).getD p 0 = if p < n ∧ (p < i ∨ n - i ≤ p) then l.getD (n - 1 - p) 0 else l.getD p 0 := by
 simp [j4, List.getD, h]
theorem WL (l : List Nat) (n : Nat) : j4 l n 0 = l := by
 apply List.ext_getElem (by simp [j4])
 intro p h1 h2
 simp only [j4, List.getElem_map, List.getElem_range]
 rw [if_neg (by omega)]; simp [h2]
theorem Vg {l : List Nat} {n i : Nat} (hn : n ≤ l.length) (hi2 : i < n - 1 - i) : ((j4 l n i).set i ((j4 l n i).getD (n - 1 - i) 0)).set (n - 1 - i) ((j4 l n i).getD i 0) = j4 l n (i + 1) := by
 rw [ZX (by omega), ZX (by omega), if_neg (by omega), if_neg (by omega)]
 apply List.ext_getElem (by simp [j4])
 intro p h1 h2
 rw [yJ] at h2
 simp only [List.getElem_set, j4, List.getElem_map, List.getElem_range]
 by_cases ha : n - 1 - i = p
 ·rw [if_pos ha, if_pos (by omega)]; congr 1; omega
 ·rw [if_neg ha]
  by_cases hb : i = p
  ·subst hb; rw [if_pos rfl, if_pos (by omega)]
  ·rw [if_neg hb]
   by_cases hc : p < n ∧ (p < i ∨ n - i ≤ p)
   ·rw [if_pos hc, if_pos (by omega)]
   ·rw [if_neg hc, if_neg (by omega)]
theorem Xs {l : List Nat} {n i : Nat} (hn : n ≤ l.length) (hi2 : n - 1 - i ≤ i) : j4 l n i = (l.take n).reverse ++ l.drop n := by
 apply List.ext_getElem (by simp [j4]; omega)
 intro p h1 h2
 rw [yJ] at h1
 simp only [j4, List.getElem_map, List.getElem_range]
 have hl : (l.take n).reverse.length = n := by simp; omega
 by_cases ha : p < n
 ·rw [List.getElem_append_left (by omega), List.getElem_reverse, List.getElem_take]
  have e : (l.take n).length - 1 - p = n - 1 - p := by simp; omega
  simp only [e]
  by_cases hc : p < i ∨ n - i ≤ p
  ·rw [if_pos ⟨ha, hc⟩]; simp [show n - 1 - p < l.length by omega]
  ·rw [if_neg (fun h => hc h.2)]
   have : n - 1 - p = p := by omega
   simp [this, h1]
 ·rw [if_neg (fun h => ha h.1), List.getElem_append_right (by omega)]
  simp only [hl, List.getElem_drop]
  have : n + (p - n) = p := by omega
  simp [this, h1]
def Zu : Ctr := ctrT false false (fun p : List Nat × Nat => [.osl 0 1 0 p.2]) (fun p => [.arr p.1.length 1 (natG .u8 p.1)]) (fun p => p.2 ≤ p.1.length ∧ p.1.length < 2 ^ 62) (fun _ (_ : Unit) => True) (fun p _ => (.tup [], [.arr p.1.length 1 (natG .u8 ((p.1.take p.2).reverse ++ p.1.drop p.2))]))
def SV (n i : Nat) : KV := [(0, .osl 0 1 0 n), (2, .int .i64 (i : Int)), (3, .int .i64 ((n : Int) - 1 - i))]
theorem Vr : zc Tryz.prog 103 Zu := by
 refine zN (fn := Tryz.f103) (c := Tryz.f103.body.getD .skip) rfl rfl rfl (fun h => by cases h) fun p hp O w0 σ0 Q hl0 hq => ?_
 obtain ⟨l, n⟩ := p
 obtain ⟨hn, hl⟩ := hp
 replace hq := hq () trivial
 simp only at hn hl hq
 refine zb.run hmix zo [0, 2, 3] 400 (T := Tree.side (inR IntKind.i64 ((↑n : Int) - (1 : Int))) (Tree.leaf (jP.loop (Prod.fst (lps K103 (0 : Nat))) (Prod.snd (lps K103 (0 : Nat))) [((0 : Nat), AV.osl (0 : Nat) (1 : Nat) (0 : Nat) n), ((2 : Nat), AV.int IntKind.i64 (0 : Int)), ((3 : Nat), AV.int IntKind.i64 ((↑n : Int) - (1 : Int)))] [Blk.arr (List.length l) (1 : Nat) (natG IntKind.u8 l)]))) (by kernel_rfl) ?_
 simp only [Tree.holds, zd, inR, lo, hi]
 refine ⟨by omega, fun _ => ?_⟩
 refine zb.loop (ι := {i : Nat // i ≤ n}) (fun i => SV n i.1) (fun i => [.arr l.length 1 (natG .u8 (j4 l n i.1))]) (fun i => n - i.1) ⟨0, Nat.zero_le _⟩ 0 ?_ ?_ (by kernel_rfl)
 ·exact ⟨by simp [SV], by simp [WL, za], by kernel_rfl, Nat.le_refl _⟩
 ·rintro ⟨i, hin⟩
  obtain ⟨u, hu⟩ : ∃ u, j4 l n i = u := ⟨_, rfl⟩
  have hul : u.length = l.length := by rw [← hu, yJ]
  simp only [hu, ← hul]
  refine zb.run hmix zo [0, 2, 3] 400 (T := Tree.ite (decide ((↑i : Int) < (↑n : Int) - (1 : Int) - (↑i : Int))) (Tree.side ((0 : Int) ≤ (↑n : Int) - (1 : Int) - (↑i : Int) ∧ (↑n : Int) - (1 : Int) - (↑i : Int) < (↑n : Int)) (Tree.side ((0 : Int) ≤ (↑i : Int) ∧ (↑i : Int) < (↑n : Int)) (Tree.side ((0 : Int) ≤ (↑i : Int) ∧ (↑i : Int) < (↑n : Int)) (Tree.side ((0 : Int) ≤ (↑n : Int) - (1 : Int) - (↑i : Int) ∧ (↑n : Int) - (1 : Int) - (↑i : Int) < (↑n : Int)) (Tree.side (inR IntKind.i64 ((↑i : Int) + (1 : Int))) (Tree.side (inR IntKind.i64 ((↑n : Int) - (1 : Int) - (↑i : Int) - (1 : Int))) (Tree.leaf (jP.back (0 : Nat) [((0 : Nat), AV.osl (0 : Nat) (1 : Nat) (0 : Nat) n), ((2 : Nat), AV.int IntKind.i64 ((↑i : Int) + (1 : Int))), ((3 : Nat), AV.int IntKind.i64 ((↑n : Int) - (1 : Int) - (↑i : Int) - (1 : Int)))] [Blk.arr (List.length u) (1 : Nat) (updG (updG (natG IntKind.u8 u) ((0 : Nat) + Int.toNat (↑i : Int)) (0 : Nat) [AV.int IntKind.u8 (↑(List.getD u ((0 : Nat) + Int.toNat ((↑n : Int) - (1 : Int) - (↑i : Int))) (0 : Nat)) : Int)]) ((0 : Nat) + Int.toNat ((↑n : Int) - (1 : Int) - (↑i : Int))) (0 : Nat) [AV.int IntKind.u8 (↑(List.getD u ((0 : Nat) + Int.toNat (↑i : Int)) (0 : Nat)) : Int)])])))))))) (Tree.leaf (jP.ret [] [Blk.arr (List.length u) (1 : Nat) (natG IntKind.u8 u)]))) (by kernel_rfl) ?_
  simp only [Tree.holds, zd, inR, lo, hi, Int.toNat_natCast]
  refine ⟨fun hlt => ?_, fun hge => ?_⟩
  ·have hlt : i < n - 1 - i := by simp at hlt; omega
   have ej : ((n : Int) - 1 - i).toNat = n - 1 - i := by omega
   rw [ej]
   iterate 6 refine ⟨by omega, fun _ => ?_⟩
   rw [if_pos trivial]
   have hs := Vg (l := l) hn hlt
   rw [hu] at hs
   refine ⟨⟨i + 1, by omega⟩, by show n - (i + 1) < n - i; omega, by simp [SV]; omega, ?_, by kernel_rfl, Nat.le_refl _⟩
   rw [← hs]
   refine ⟨⟨rfl, rfl, ?_⟩, trivial⟩
   have h1 := jJ (k := .u8) (l := u) (v := (u.getD (n - 1 - i) 0 : Nat)) (i := i) (by omega) (by omega)
   have h2 := jJ (k := .u8) (l := u.set i (u.getD (n - 1 - i) 0)) (v := (u.getD i 0 : Nat)) (i := n - 1 - i) (by omega) (by simp; omega)
   simp only [List.length_set, Int.toNat_natCast] at h1 h2
   refine yG ?_ h2
   intro p o hp ho
   have := h1 p o hp ho
   simp only [updG, Nat.zero_add] at this ⊢
   split
   ·rfl
   ·exact this
  ·have hge : n - 1 - i ≤ i := by simp at hge; omega
   have hr := Xs (l := l) hn hge
   rw [hu] at hr
   refine ⟨[0], rfl, by simp, by simp, by simp [Zu, ctrT], .tup [], _, by simp [resV, exp2, eqA2, eqL1], ?_, rfl, hq⟩
   simp [expH, expB, hr, za]
   omega
def vj (neg : Bool) (x : Nat) : Blk := .box [.bool neg, magS x]
def SW (x i n : Nat) : KV := [(1, .ptr 0 0), (4, .osl 1 1 0 n), (6, .undef), (12, magS x), (13, .int .i64 ((canon x).length : Int)), (14, .int .i64 (i : Int)), (18, .undef)]
def SW2 (x i n g k : Nat) : KV := [(1, .ptr 0 0), (4, .osl 1 1 0 n), (6, .int .u32 (g : Int)), (12, magS x), (13, .int .i64 ((canon x).length : Int)), (14, .int .i64 (i : Int)), (18, .int .i64 (k : Int))]
def G4 : Nat → Option Ctr := fun f => if f = 103 then some (Zu) else none
theorem K4 : ∀ g c, G4 g = some c → zc Tryz.prog g c := okIf Vr (okNone)
theorem x2 (k : IntKind) (l : List Nat) (n : Nat) (hn : n ≤ l.length) : vA n (zj (natG k l) 0) = (l.take n).map UInt8.ofNat := by
 apply List.ext_getElem (by simp [vA]; omega)
 intro j h1 h2
 have hj : j < n := by simpa [vA] using h1
 simp [vA, zj, natG, Sx.byteOf, show j < l.length by omega]
def wb (x i : Nat) : List Nat := (decs (9 * i) (val ((canon x).take i))).map (48 + ·)
theorem Jh (x i : Nat) : (wb x i).length = 9 * i := by simp [wb, jR]
theorem Xf (i : Nat) : B ^ i = 10 ^ (9 * i) := by rw [Nat.pow_mul]
theorem zd1 {x i : Nat} (h : i < (canon x).length) : wb x i ++ (decs 9 ((canon x).getD i 0)).map (48 + ·) = wb x (i + 1) := by
 have h1 := z8 (qC (zg x) i)
 rw [List.length_take, Nat.min_eq_left (by omega), Xf] at h1
 simp only [wb]
 rw [← List.map_append, ← uc _ _ _ _ h1, zh, Xf]
 rfl
theorem VY (x : Nat) : wb x (canon x).length = (dec x).map (48 + ·) ++ List.replicate (9 * (canon x).length - (dec x).length) 48 := by
 have h : x < 10 ^ (9 * (canon x).length) := by
  have := z8 (zg x)
  rwa [zi, Xf] at this
 simp only [wb, List.take_length, zi, YJ h, Ten.padN, List.map_append, List.map_replicate, dec]
def uQ : Ctr := ctrP true (fun p : Bool × Nat => [.agg [.bool p.1, magS p.2]]) (fun p => (canon p.2).length < 1000000) (fun p r => r = wr p.1 p.2) (fun _ r => (.tup [.str r.1, .int .i64 r.2], []))
theorem XE {O : Nat → Prop} {w0 : World} {Q : AV × Heap → Prop} {Hs : Nat → KV → Heap → Prop} (neg : Bool) (x : Nat) (hx : (canon x).length < 1000000) (hx0 : x ≠ 0) (hq : Q (.tup [.str (wr neg x).1, .int .i64 (wr neg x).2], [])) (b : List Nat) (hb : b = wb x (canon x).length) :
  zb Tryz.prog Tryz.f65 O 0 w0 [] Hs (RetR uQ 0 Q) (.code (.loop (lps (inside K65 0) 1).1) :: (lps (inside K65 0) 1).2) (mk Tryz.f65.ntmps (SW x (canon x).length b.length) [vj neg x, .arr b.length 1 (natG .u8 b)]) := by
 have hdl := J0 hx0
 have hle : (dec x).length ≤ 9 * (canon x).length := by
  have := z8 (zg x)
  rw [zi, Xf] at this
  exact vK this
 have hbl : b.length = 9 * (canon x).length := by rw [hb, Jh]
 have hget : ∀ p, p < b.length → b.getD p 0 = 48 + (dec x).getD p 0 := by
  intro p hp
  rw [hb, VY]
  by_cases h : p < (dec x).length
  ·rw [vO (by simpa using h), X9 (z := 0) h]
  ·rw [vR (by simpa using Nat.le_of_not_lt h), ZJ (by simp; omega), jT (Nat.le_of_not_lt h)]
 have htake : b.take (dec x).length = (dec x).map (48 + ·) := by
  rw [hb, VY, List.take_append_of_le_length (by simp), List.take_of_length_le (by simp)]
 refine zb.loop (ι := {n : Nat // (dec x).length ≤ n ∧ n ≤ b.length}) (fun n => SW x (canon x).length n.1) (fun _ => [vj neg x, .arr b.length 1 (natG .u8 b)]) (fun n => n.1) ⟨b.length, by omega, Nat.le_refl _⟩ 0 ?_ ?_ (by kernel_rfl)
 ·exact ⟨by simp [SW, magS, natS, za], by simp [vj, magS, natS, za], by kernel_rfl, Nat.zero_le _⟩
 ·rintro ⟨n, hn1, hn2⟩
  obtain ⟨L, hL⟩ : ∃ L, (canon x).length = L := ⟨_, rfl⟩
  simp only [hL]
  refine zb.run hmix K4 [1, 4, 6, 12, 13, 14, 18] 400 (T := Tree.side (inR IntKind.i64 ((↑n : Int) - (1 : Int))) (Tree.side ((0 : Int) ≤ (↑n : Int) - (1 : Int) ∧ (↑n : Int) - (1 : Int) < (↑n : Int)) (Tree.ite (decide ((↑(List.getD b ((0 : Nat) + Int.toNat ((↑n : Int) - (1 : Int))) (0 : Nat)) : Int) = (48 : Int))) (Tree.side (inR IntKind.i64 ((↑n : Int) - (1 : Int))) (Tree.side ((0 : Int) ≤ (↑n : Int) - (1 : Int) ∧ (↑n : Int) - (1 : Int) ≤ (↑n : Int)) (Tree.leaf (jP.back (0 : Nat) [((1 : Nat), AV.ptr (0 : Nat) (0 : Nat)), ((4 : Nat), AV.osl (1 : Nat) (1 : Nat) (0 : Nat) (Int.toNat ((↑n : Int) - (1 : Int)) - (0 : Nat))), ((6 : Nat), AV.undef), ((12 : Nat), AV.sl (List.length (canon x)) (1 : Nat) (natG IntKind.u32 (canon x))), ((13 : Nat), AV.int IntKind.i64 (↑(List.length (canon x)) : Int)), ((14 : Nat), AV.int IntKind.i64 (↑L : Int)), ((18 : Nat), AV.undef)] [Blk.box [AV.bool neg, AV.sl (List.length (canon x)) (1 : Nat) (natG IntKind.u32 (canon x))], Blk.arr (List.length b) (1 : Nat) (natG IntKind.u8 b)])))) (Tree.ite (decide ((1000 : Int) < (↑n : Int))) (Tree.leaf (jP.ret [AV.str (Array.toList #[]), AV.int IntKind.i64 (14 : Int)] [Blk.box [AV.bool neg, AV.sl (List.length (canon x)) (1 : Nat) (natG IntKind.u32 (canon x))], Blk.arr (List.length b) (1 : Nat) (natG IntKind.u8 b)])) (Tree.ite neg (Tree.side ((0 : Nat) = (0 : Nat) ∧ n ≤ List.length b ∧ (n + (1 : Nat)) * (1 : Nat) ≤ (140737488355328 : Nat)) (Tree.ex (fun (x : List Nat × Nat) => eqL [AV.osl (0 : Nat) (1 : Nat) (0 : Nat) (n + (1 : Nat))] [AV.osl (0 : Nat) (1 : Nat) (0 : Nat) (Prod.snd x)] ∧ eqH [Blk.arr (n + (1 : Nat)) (1 : Nat) (appG n (natG IntKind.u8 b) (zj (zk (1 : Nat) [AV.int IntKind.u8 (45 : Int)]) (0 : Nat)))] [Blk.arr (List.length (Prod.fst x)) (1 : Nat) (natG IntKind.u8 (Prod.fst x))] ∧ (1 : Nat) = (1 : Nat) ∧ Prod.snd x ≤ List.length (Prod.fst x) ∧ List.length (Prod.fst x) < (4611686018427387904 : Nat)) fun (n_1 : List Nat × Nat) => Tree.all (fun (x : Unit) => True) fun (n_2 : Unit) => Tree.side (∀ (j : Nat), j < n + (1 : Nat) → ∃ (b : UInt8), AV.int IntKind.u8 (↑(List.getD (List.reverse (List.take (Prod.snd n_1) (Prod.fst n_1)) ++ List.drop (Prod.snd n_1) (Prod.fst n_1)) ((0 : Nat) + j) (0 : Nat)) : Int) = AV.int IntKind.u8 (↑(UInt8.toNat b) : Int)) (Tree.leaf (jP.ret [AV.str (vA (n + (1 : Nat)) (zj (natG IntKind.u8 (List.reverse (List.take (Prod.snd n_1) (Prod.fst n_1)) ++ List.drop (Prod.snd n_1) (Prod.fst n_1))) (0 : Nat))), AV.int IntKind.i64 (0 : Int)] [Blk.box [AV.bool neg, AV.sl (List.length (canon x)) (1 : Nat) (natG IntKind.u32 (canon x))], Blk.arr (List.length (Prod.fst n_1)) (1 : Nat) (natG IntKind.u8 (List.reverse (List.take (Prod.snd n_1) (Prod.fst n_1)) ++ List.drop (Prod.snd n_1) (Prod.fst n_1))), Blk.arr (1 : Nat) (1 : Nat) (zk (1 : Nat) [AV.int IntKind.u8 (45 : Int)])])))) (Tree.ex (fun (x : List Nat × Nat) => eqL [AV.osl (0 : Nat) (1 : Nat) (0 : Nat) n] [AV.osl (0 : Nat) (1 : Nat) (0 : Nat) (Prod.snd x)] ∧ eqH [Blk.arr (List.length b) (1 : Nat) (natG IntKind.u8 b)] [Blk.arr (List.length (Prod.fst x)) (1 : Nat) (natG IntKind.u8 (Prod.fst x))] ∧ (1 : Nat) = (1 : Nat) ∧ Prod.snd x ≤ List.length (Prod.fst x) ∧ List.length (Prod.fst x) < (4611686018427387904 : Nat)) fun (n_1 : List Nat × Nat) => Tree.all (fun (x : Unit) => True) fun (n_2 : Unit) => Tree.side (∀ (j : Nat), j < n → ∃ (b : UInt8), AV.int IntKind.u8 (↑(List.getD (List.reverse (List.take (Prod.snd n_1) (Prod.fst n_1)) ++ List.drop (Prod.snd n_1) (Prod.fst n_1)) ((0 : Nat) + j) (0 : Nat)) : Int) = AV.int IntKind.u8 (↑(UInt8.toNat b) : Int)) (Tree.leaf (jP.ret [AV.str (vA n (zj (natG IntKind.u8 (List.reverse (List.take (Prod.snd n_1) (Prod.fst n_1)) ++ List.drop (Prod.snd n_1) (Prod.fst n_1))) (0 : Nat))), AV.int IntKind.i64 (0 : Int)] [Blk.box [AV.bool neg, AV.sl (List.length (canon x)) (1 : Nat) (natG IntKind.u32 (canon x))], Blk.arr (List.length (Prod.fst n_1)) (1 : Nat) (natG IntKind.u8 (List.reverse (List.take (Prod.snd n_1) (Prod.fst n_1)) ++ List.drop (Prod.snd n_1) (Prod.fst n_1)))])))))))) (by kernel_rfl) ?_
  have e1 : ((n : Int) - 1).toNat = n - 1 := by omega
  have e2 : 0 + (n - 1) = n - 1 := by omega
  have e3 : n - 1 - 0 = n - 1 := by omega
  simp only [Tree.holds, zd, inR, lo, hi, e1, e2, e3]
  have hg := hget (n - 1) (by omega)
  rw [hg]
  iterate 2 refine ⟨by omega, fun _ => ?_⟩
  refine ⟨fun hz => ?_, fun hnz => ⟨fun hbig => ?_, fun hsm => ?_⟩⟩
  ·have hz : (dec x).getD (n - 1) 0 = 0 := by simp at hz ⊢; omega
   have hne : n ≠ (dec x).length := by
    rintro rfl
    exact KZ hdl hz
   iterate 2 refine ⟨by omega, fun _ => ?_⟩
   rw [if_pos trivial]
   exact ⟨⟨n - 1, by omega, by omega⟩, by show n - 1 < n; omega, by simp [SW, magS, natS, za], by simp [vj, magS, natS, za], by kernel_rfl, Nat.zero_le _⟩
  ·have hn : n = (dec x).length := by
    rcases Nat.lt_or_ge (dec x).length n with h | h
    ·have : (dec x).getD (n - 1) 0 = 0 := by simp [List.getD, List.getElem?_eq_none (show (dec x).length ≤ n - 1 by omega)]
     rw [this] at hnz; simp at hnz
    ·omega
   subst hn
   have hbig : 1000 < (dec x).length := by simp at hbig; omega
   simp only [wr, if_neg hx0, if_pos hbig] at hq
   exact RetR.scal hq rfl rfl
  ·have hn : n = (dec x).length := by
    rcases Nat.lt_or_ge (dec x).length n with h | h
    ·have : (dec x).getD (n - 1) 0 = 0 := by simp [List.getD, List.getElem?_eq_none (show (dec x).length ≤ n - 1 by omega)]
     rw [this] at hnz; simp at hnz
    ·omega
   subst hn
   have hsm : ¬ 1000 < (dec x).length := by simp at hsm; omega
   simp only [wr, if_neg hx0, if_neg hsm] at hq
   have hbyte : ∀ (l : List Nat) (k : Nat), (∀ d ∈ l, d < 256) → ∀ j, j < k → ∃ c : UInt8, AV.int .u8 ((l.getD (0 + j) 0 : Nat) : Int) = .int .u8 (c.toNat : Int) := by
    intro l k hl j hj
    rw [Nat.zero_add]
    have : l.getD j 0 < 256 := by
     by_cases h : j < l.length
     ·have := hl l[j] (List.getElem_mem h)
      simpa [List.getD, h] using this
     ·simp [List.getD, List.getElem?_eq_none (Nat.le_of_not_lt h)]
    refine ⟨UInt8.ofNat (l.getD j 0), ?_⟩
    simp only [AV.int.injEq, true_and]
    rw [UInt8.toNat_ofNat', Nat.mod_eq_of_lt this]
   have hb256 : ∀ d ∈ b, d < 256 := by
    intro d hd
    rw [hb, VY] at hd
    rcases List.mem_append.1 hd with hd | hd
    ·obtain ⟨y, hy, rfl⟩ := List.mem_map.1 hd
     have := Ten.zg x y hy
     simp only [Ten.B] at this
     omega
    ·have := (List.mem_replicate.1 hd).2; omega
   have htx : ((b.take (dec x).length).reverse).map UInt8.ofNat = txt x := by
    rw [htake, txt, if_neg hx0, List.map_reverse, List.map_map]; rfl
   refine ⟨fun hneg => ?_, fun hneg => ?_⟩
   ·subst hneg
    refine ⟨⟨trivial, hn2, by omega⟩, fun _ => ?_⟩
    have hal : (b.take (dec x).length ++ [45]).length = (dec x).length + 1 := by simp; omega
    refine ⟨(b.take (dec x).length ++ [45], (dec x).length + 1), ⟨by simp, ?_, by simp, by simp only [hal]; omega, by simp only [hal]; omega⟩, ⟨(), trivial⟩, fun _ _ => ⟨?_, fun _ => ?_⟩⟩
    ·simp only [eqH, eqB, hal]
     refine ⟨⟨trivial, trivial, ?_⟩, trivial⟩
     intro j o hj ho
     have : o = 0 := by omega
     subst this
     simp only [appG, zj, zk, natG]
     have hl : (b.take (dec x).length).length = (dec x).length := by simp; omega
     by_cases h : j < (dec x).length
     ·rw [if_pos h, vO (by omega), xB h]
     ·have : j = (dec x).length := by omega
      subst this
      rw [if_neg (by omega), vR (by omega), hl, Nat.sub_self]
      rfl
    ·refine hbyte _ _ ?_
     intro d hd
     simp only [List.mem_append, List.mem_reverse] at hd
     rcases hd with hd | hd
     ·have := List.mem_of_mem_take hd
      rcases List.mem_append.1 this with h | h
      ·exact hb256 d (List.mem_of_mem_take h)
      ·simp at h; omega
     ·have := List.mem_of_mem_drop hd
      rcases List.mem_append.1 this with h | h
      ·exact hb256 d (List.mem_of_mem_take h)
      ·simp at h; omega
    ·refine RetR.scal hq rfl ?_
     simp only [resV]
     rw [x2 _ _ _ (by simp; omega)]
     have ht : List.take ((dec x).length + 1) (b.take (dec x).length ++ [45]) = b.take (dec x).length ++ [45] := List.take_of_length_le (by omega)
     rw [ht, List.take_append_of_le_length (by simp; omega), List.take_of_length_le (by simp; omega), List.reverse_append, List.map_append, htx]
     simp [sgn]
   ·subst hneg
    refine ⟨(b, (dec x).length), ⟨by simp, by simp [za], by simp, hn2, by simp only [hbl]; omega⟩, ⟨(), trivial⟩, fun _ _ => ⟨?_, fun _ => ?_⟩⟩
    ·refine hbyte _ _ ?_
     intro d hd
     simp only [List.mem_append, List.mem_reverse] at hd
     rcases hd with hd | hd
     ·exact hb256 d (List.mem_of_mem_take hd)
     ·exact hb256 d (List.mem_of_mem_drop hd)
    ·refine RetR.scal hq rfl ?_
     simp only [resV]
     have hrl : ((b.take (dec x).length).reverse).length = (dec x).length := by simp; omega
     rw [x2 _ _ _ (by rw [List.length_append, hrl]; omega), List.take_append_of_le_length (by omega), List.take_of_length_le (by omega), htx]
     simp [sgn]
theorem Zq : zc Tryz.prog 65 uQ := by
 refine ze (fn := Tryz.f65) (c := Tryz.f65.body.getD .skip) rfl rfl rfl fun p hp O w0 Q hq => ?_
 obtain ⟨neg, x⟩ := p
 replace hq := hq _ rfl
 simp only at hp hq
 refine zb.run hmix K4 [1, 4, 6, 12, 13, 14, 18] 400 (T := Tree.ite (decide ((↑(List.length (canon x)) : Int) = (0 : Int))) (Tree.leaf (jP.ret [AV.str (Array.toList #[(48 : UInt8)]), AV.int IntKind.i64 (0 : Int)] [Blk.box [AV.bool neg, AV.sl (List.length (canon x)) (1 : Nat) (natG IntKind.u32 (canon x))]])) (Tree.leaf (jP.loop (Prod.fst (lps K65 (0 : Nat))) (Prod.snd (lps K65 (0 : Nat))) [((1 : Nat), AV.ptr (0 : Nat) (0 : Nat)), ((4 : Nat), AV.nils), ((6 : Nat), AV.undef), ((12 : Nat), AV.sl (List.length (canon x)) (1 : Nat) (natG IntKind.u32 (canon x))), ((13 : Nat), AV.int IntKind.i64 (↑(List.length (canon x)) : Int)), ((14 : Nat), AV.int IntKind.i64 (0 : Int)), ((18 : Nat), AV.undef)] [Blk.box [AV.bool neg, AV.sl (List.length (canon x)) (1 : Nat) (natG IntKind.u32 (canon x))]]))) (by kernel_rfl) ?_
 simp only [Tree.holds, zd, inR, lo, hi]
 refine ⟨fun h0 => ?_, fun h0 => ?_⟩
 ·have h0 : x = 0 := by
   rcases Nat.eq_zero_or_pos x with h | h
   ·exact h
   ·have := je (x := x) (n := 0) (by simp; omega)
    simp at h0; rw [h0] at this; simp at this
  subst h0
  refine RetR.scal hq rfl ?_
  simp [resV, wr]
 ·have hx0 : x ≠ 0 := by
   rintro rfl
   simp [zC] at h0
  refine zb.bear 4 1 (natG .u8 []) (by kernel_rfl) (by decide +kernel) (by kernel_rfl) ?_
  refine zb.loop (ι := {i : Nat // i ≤ (canon x).length}) (fun i => SW x i.1 (wb x i.1).length) (fun i => [vj neg x, .arr (wb x i.1).length 1 (natG .u8 (wb x i.1))]) (fun i => (canon x).length - i.1) ⟨0, Nat.zero_le _⟩ 0 ?_ ?_ (by kernel_rfl)
  ·exact ⟨by simp [kz, SW, magS, natS, za, Jh], by simp [vj, magS, natS, za, Jh, eqG], by kernel_rfl, Nat.zero_le _⟩
  ·rintro ⟨i, hil⟩
   obtain ⟨b, hb⟩ : ∃ b, wb x i = b := ⟨_, rfl⟩
   simp only [hb]
   refine zb.run hmix K4 [1, 4, 6, 12, 13, 14, 18] 400 (T := Tree.ite (decide ((↑i : Int) < (↑(List.length (canon x)) : Int))) (Tree.side ((0 : Int) ≤ (↑i : Int) ∧ (↑i : Int) < (↑(List.length (canon x)) : Int)) (Tree.leaf (jP.loop (Prod.fst (lps (inside K65 (0 : Nat)) (0 : Nat))) (Prod.snd (lps (inside K65 (0 : Nat)) (0 : Nat))) [((1 : Nat), AV.ptr (0 : Nat) (0 : Nat)), ((4 : Nat), AV.osl (1 : Nat) (1 : Nat) (0 : Nat) (List.length b)), ((6 : Nat), AV.int IntKind.u32 (↑(List.getD (canon x) (Int.toNat (↑i : Int)) (0 : Nat)) : Int)), ((12 : Nat), AV.sl (List.length (canon x)) (1 : Nat) (natG IntKind.u32 (canon x))), ((13 : Nat), AV.int IntKind.i64 (↑(List.length (canon x)) : Int)), ((14 : Nat), AV.int IntKind.i64 (↑i : Int)), ((18 : Nat), AV.int IntKind.i64 (0 : Int))] [Blk.box [AV.bool neg, AV.sl (List.length (canon x)) (1 : Nat) (natG IntKind.u32 (canon x))], Blk.arr (List.length b) (1 : Nat) (natG IntKind.u8 b)]))) (Tree.leaf (jP.loop (Prod.fst (lps (inside K65 (0 : Nat)) (1 : Nat))) (Prod.snd (lps (inside K65 (0 : Nat)) (1 : Nat))) [((1 : Nat), AV.ptr (0 : Nat) (0 : Nat)), ((4 : Nat), AV.osl (1 : Nat) (1 : Nat) (0 : Nat) (List.length b)), ((6 : Nat), AV.undef), ((12 : Nat), AV.sl (List.length (canon x)) (1 : Nat) (natG IntKind.u32 (canon x))), ((13 : Nat), AV.int IntKind.i64 (↑(List.length (canon x)) : Int)), ((14 : Nat), AV.int IntKind.i64 (↑i : Int)), ((18 : Nat), AV.undef)] [Blk.box [AV.bool neg, AV.sl (List.length (canon x)) (1 : Nat) (natG IntKind.u32 (canon x))], Blk.arr (List.length b) (1 : Nat) (natG IntKind.u8 b)]))) (by kernel_rfl) ?_
   simp only [Tree.holds, zd, inR, lo, hi, Int.toNat_natCast]
   refine ⟨fun hlt => ⟨by simp at hlt; omega, fun _ => ?_⟩, fun hge => ?_⟩
   ·have hlt : i < (canon x).length := by simp at hlt; omega
    obtain ⟨g, hg⟩ : ∃ g, (canon x).getD i 0 = g := ⟨_, rfl⟩
    have hgB : g < 1000000000 := hg ▸ zz (zg x) i
    have hstep := zd1 hlt
    have hbl : b.length = 9 * i := by rw [← hb, Jh]
    rw [hb, hg] at hstep
    rw [hg]
    refine zb.loop (ι := {k : Nat // k ≤ 9}) (fun k => SW2 x i (b ++ (decs k.1 g).map (48 + ·)).length (g / 10 ^ k.1) k.1) (fun k => [vj neg x, .arr (b ++ (decs k.1 g).map (48 + ·)).length 1 (natG .u8 (b ++ (decs k.1 g).map (48 + ·)))]) (fun k => 9 - k.1) ⟨0, Nat.zero_le _⟩ 1 ?_ ?_ (by kernel_rfl)
    ·exact ⟨by simp [SW2, magS, natS, za, decs], by simp [vj, magS, natS, za, decs], by kernel_rfl, Nat.zero_le _⟩
    ·rintro ⟨k, hk⟩
     obtain ⟨c, hc⟩ : ∃ c, b ++ (decs k g).map (48 + ·) = c := ⟨_, rfl⟩
     obtain ⟨q, hqv⟩ : ∃ q, g / 10 ^ k = q := ⟨_, rfl⟩
     have hqB : q < 1000000000 := by rw [← hqv]; exact Nat.lt_of_le_of_lt (Nat.div_le_self _ _) hgB
     have hcl : c.length = 9 * i + k := by rw [← hc]; simp [jR, hbl]
     have hnext : b ++ (decs (k + 1) g).map (48 + ·) = c ++ [48 + q % 10] := by
      rw [ZZ, List.map_append, ← List.append_assoc, hc, hqv]; rfl
     have hqn : g / 10 ^ (k + 1) = q / 10 := by rw [Nat.pow_succ, ← Nat.div_div_eq_div_mul, hqv]
     simp only [hc, hqv]
     refine zb.run hmix K4 [1, 4, 6, 12, 13, 14, 18] 400 (T := Tree.ite (decide ((↑k : Int) < (9 : Int))) (Tree.side ((10 : Int) ≠ (0 : Int)) (Tree.side (inR IntKind.u32 ((48 : Int) + Int.tmod (↑q : Int) (10 : Int))) (Tree.side (inR IntKind.u8 ((48 : Int) + Int.tmod (↑q : Int) (10 : Int))) (Tree.side ((0 : Nat) = (0 : Nat) ∧ List.length c ≤ List.length c ∧ (List.length c + (1 : Nat)) * (1 : Nat) ≤ (140737488355328 : Nat)) (Tree.side ((10 : Int) ≠ (0 : Int) ∧ inR IntKind.u32 (Int.tdiv (↑q : Int) (10 : Int))) (Tree.side (inR IntKind.i64 ((↑k : Int) + (1 : Int))) (Tree.leaf (jP.back (1 : Nat) [((1 : Nat), AV.ptr (0 : Nat) (0 : Nat)), ((4 : Nat), AV.osl (1 : Nat) (1 : Nat) (0 : Nat) (List.length c + (1 : Nat))), ((6 : Nat), AV.int IntKind.u32 (Int.tdiv (↑q : Int) (10 : Int))), ((12 : Nat), AV.sl (List.length (canon x)) (1 : Nat) (natG IntKind.u32 (canon x))), ((13 : Nat), AV.int IntKind.i64 (↑(List.length (canon x)) : Int)), ((14 : Nat), AV.int IntKind.i64 (↑i : Int)), ((18 : Nat), AV.int IntKind.i64 ((↑k : Int) + (1 : Int)))] [Blk.box [AV.bool neg, AV.sl (List.length (canon x)) (1 : Nat) (natG IntKind.u32 (canon x))], Blk.arr (List.length c + (1 : Nat)) (1 : Nat) (appG (List.length c) (natG IntKind.u8 c) (zj (zk (1 : Nat) [AV.int IntKind.u8 ((48 : Int) + Int.tmod (↑q : Int) (10 : Int))]) (0 : Nat))), Blk.arr (1 : Nat) (1 : Nat) (zk (1 : Nat) [AV.int IntKind.u8 ((48 : Int) + Int.tmod (↑q : Int) (10 : Int))])])))))))) (Tree.side (inR IntKind.i64 ((↑i : Int) + (1 : Int))) (Tree.leaf (jP.back (0 : Nat) [((1 : Nat), AV.ptr (0 : Nat) (0 : Nat)), ((4 : Nat), AV.osl (1 : Nat) (1 : Nat) (0 : Nat) (List.length c)), ((6 : Nat), AV.int IntKind.u32 (↑q : Int)), ((12 : Nat), AV.sl (List.length (canon x)) (1 : Nat) (natG IntKind.u32 (canon x))), ((13 : Nat), AV.int IntKind.i64 (↑(List.length (canon x)) : Int)), ((14 : Nat), AV.int IntKind.i64 ((↑i : Int) + (1 : Int))), ((18 : Nat), AV.int IntKind.i64 (↑k : Int))] [Blk.box [AV.bool neg, AV.sl (List.length (canon x)) (1 : Nat) (natG IntKind.u32 (canon x))], Blk.arr (List.length c) (1 : Nat) (natG IntKind.u8 c)])))) (by kernel_rfl) ?_
     have e10 : (10 : Int) = ((10 : Nat) : Int) := rfl
     have em : Int.tmod (q : Int) 10 = ((q % 10 : Nat) : Int) := by rw [e10, Xn]
     have ed : Int.tdiv (q : Int) 10 = ((q / 10 : Nat) : Int) := by rw [e10, KB]
     simp only [Tree.holds, zd, inR, lo, hi, em, ed]
     refine ⟨fun hlt2 => ?_, fun hge2 => ?_⟩
     ·have hlt2 : k < 9 := by simp at hlt2; omega
      refine ⟨by decide, fun _ => ⟨by omega, fun _ => ⟨by omega, fun _ => ⟨⟨trivial, Nat.le_refl _, by omega⟩, fun _ => ⟨⟨by decide, by omega, by omega⟩, fun _ => ⟨by omega, fun _ => ?_⟩⟩⟩⟩⟩⟩
      rw [if_pos trivial]
      refine ⟨⟨k + 1, by omega⟩, by show 9 - (k + 1) < 9 - k; omega, ?_, ?_, by kernel_rfl, Nat.zero_le _⟩
      ·simp [SW2, hnext, hqn, magS, natS, za]
      ·simp only [hnext]
       refine ⟨by simp [vj, magS, natS, za], ⟨by simp, rfl, ?_⟩, trivial⟩
       have := xU (k := .u8) (l := c) (v := 48 + ((q % 10 : Nat) : Int)) (by omega)
       rw [show (48 + ((q % 10 : Nat) : Int)).toNat = 48 + q % 10 by omega] at this
       exact this
     ·have hge2 : k = 9 := by simp at hge2; omega
      subst hge2
      refine ⟨by omega, fun _ => ?_⟩
      rw [if_neg (by decide), if_pos trivial]
      have hcw : c = wb x (i + 1) := by rw [← hc, hstep]
      exact ⟨⟨i + 1, hlt⟩, by show _ - (i + 1) < _ - i; omega, by simp [SW, hcw, magS, natS, za], by simp [hcw, vj, magS, natS, za], by kernel_rfl, Nat.zero_le _⟩
   ·have hge : i = (canon x).length := by simp at hge; omega
    subst hge
    exact XE neg x hp hx0 hq b hb.symm
end Go.Proofs.Tryz
end

/- The integers' texts: Check, pair, Gcd. -/
section
set_option maxRecDepth 100000
open Go Go.Sx Go.Proofs Go.Nov
namespace Go.Proofs.Tryz
attribute [local simp] eqKV eqA eqA0 eqH eqB eqL eqL0
noncomputable def K94 : List Go.Sx.Item := [.code (Tryz.f94.body.getD .skip)]
noncomputable def K64 : List Go.Sx.Item := [.code (Tryz.f64.body.getD .skip)]
noncomputable def K95 : List Go.Sx.Item := [.code (Tryz.f95.body.getD .skip)]
theorem k7 (c : UInt8) : (if decide ((c.toNat : Int) < 48) = true then true else decide (57 < (c.toNat : Int))) = !isD c := by
 simp only [isD]
 by_cases h : c.toNat < 48
 ·rw [if_pos (by simp; omega)]; simp; omega
 ·rw [if_neg (by simp; omega)]
  by_cases h2 : c.toNat ≤ 57
  ·have : decide (57 < (c.toNat : Int)) = false := by simp; omega
   rw [this]; simp; omega
  ·have : decide (57 < (c.toNat : Int)) = true := by simp; omega
   rw [this]; simp; omega
def uW : Ctr := ctrP true (fun s : List UInt8 => [.str s]) (fun s => s.length < 2 ^ 62) (fun s r => r = errI s) (fun _ r => (.int .i64 r, []))
def SCk (b : List UInt8) (i : Nat) : KV := [(3, .str b), (31, .int .i64 (b.length : Int)), (32, .int .i64 (i : Int)), (40, .undef), (41, .undef), (42, .undef), (43, .undef)]
theorem uU {O : Nat → Prop} {w0 : World} {Q : AV × Heap → Prop} {neg : Bool} (b : List UInt8) (hb : b.length < 2 ^ 62) (hf : b.all isD = true → zU neg b = true)
  (hq : Q (.int .i64 (if zU neg b then (if 1000 < b.length then 14 else 0) else 12), [])) :
  zb Tryz.prog Tryz.f94 O 0 w0 [] (fun _ _ _ => False) (RetR uW 0 Q) (.code (.loop (lps K94 0).1) :: (lps K94 0).2) (mk Tryz.f94.ntmps (SCk b 0) []) := by
 refine zb.loop (ι := {i : Nat // i ≤ b.length ∧ ∀ j, j < i → isD (b.getD j 0) = true}) (fun i => SCk b i.1) (fun _ => []) (fun i => b.length - i.1) ⟨0, Nat.zero_le _, fun j hj => by omega⟩ 0 ?_ ?_ (by kernel_rfl)
 ·exact ⟨by simp [SCk], by simp, by kernel_rfl, Nat.zero_le _⟩
 ·rintro ⟨i, hil, hid⟩
  refine zb.run hmix zo [3, 31, 32, 40, 41, 42, 43] 400 (T := .ite (decide ((↑i : Int) < b.length)) (.side ((0 : Int) ≤ i ∧ (↑i : Int) < b.length) (.side (decide ((↑(UInt8.toNat (List.getD b (Int.toNat (↑i : Int)) (0 : UInt8))) : Int) < 48) = false → (0 : Int) ≤ i ∧ (↑i : Int) < b.length) (.ite (bif decide ((↑(UInt8.toNat (List.getD b (Int.toNat (↑i : Int)) (0 : UInt8))) : Int) < 48) then true else decide ((57 : Int) < (↑(UInt8.toNat (List.getD b (Int.toNat (↑i : Int)) (0 : UInt8))) : Int))) (.leaf (.ret [.int .i64 12] [])) (.side (inR .i64 ((↑i : Int) + (1 : Int))) (.leaf (.back 0 [(3, .str b), (31, .int .i64 b.length), (32, .int .i64 ((↑i : Int) + (1 : Int))), (40, .undef), (41, .undef), (42, .undef), (43, .undef)] [])))))) (.ite (decide ((1000 : Int) < b.length)) (.leaf (.ret [.int .i64 14] [])) (.leaf (.ret [.int .i64 0] [])))) (by kernel_rfl) ?_
  simp only [Tree.holds, zd, inR, lo, hi, Int.toNat_natCast, Bool.cond_eq_ite]
  refine ⟨fun hlt => ?_, fun hge => ⟨fun hbig => ?_, fun hsm => ?_⟩⟩
  ·have hlt : i < b.length := by simp at hlt; omega
   refine ⟨by omega, fun _ => ⟨fun _ => by omega, fun _ => ⟨fun hbad => ?_, fun hgood => ⟨by omega, fun _ => ?_⟩⟩⟩⟩
   ·have hnd : isD (b.getD i 0) = false := by
     rw [k7] at hbad
     simpa using hbad
    have hnf : zU neg b = false := by
     have : b.all isD = false := by
      rw [List.all_eq_false]
      refine ⟨b.getD i 0, by simp [List.getD, hlt], by simpa using hnd⟩
     simp [zU, this]
    rw [hnf] at hq
    exact RetR.scal hq rfl (by simp [resV])
   ·have hd : isD (b.getD i 0) = true := by
     rw [k7] at hgood
     simpa using hgood
    rw [if_pos trivial]
    refine ⟨⟨i + 1, hlt, fun j hj => ?_⟩, by show b.length - (i + 1) < b.length - i; omega, by simp [SCk], by simp, by kernel_rfl, Nat.zero_le _⟩
    rcases Nat.lt_or_ge j i with h | h
    ·exact hid j h
    ·have : j = i := by omega
     subst this; exact hd
  all_goals
   have hge : i = b.length := by simp at hge; omega
   have hall : b.all isD = true := by
    rw [List.all_eq_true]
    intro c hc
    obtain ⟨j, hj, rfl⟩ := List.getElem_of_mem hc
    have := hid j (by omega)
    simpa [List.getD, hj] using this
   rw [hf hall] at hq
  ·rw [if_pos rfl, if_pos (by simp at hbig; omega)] at hq
   exact RetR.scal hq rfl (by simp [resV])
  ·rw [if_pos rfl, if_neg (by simp at hsm; omega)] at hq
   exact RetR.scal hq rfl (by simp [resV])
theorem ZK : zc Tryz.prog 94 uW := by
 refine ze (fn := Tryz.f94) (c := Tryz.f94.body.getD .skip) rfl rfl rfl fun s hs O w0 Q hq => ?_
 replace hq := hq _ rfl
 refine zb.run hmix zo [3, 31, 32, 40, 41, 42, 43] 400 (T := .side (decide ((0 : Int) < s.length) = true → (0 : Int) ≤ 0 ∧ (0 : Int) < s.length) (.ite (bif decide ((0 : Int) < s.length) then decide ((↑(UInt8.toNat (List.getD s 0 (0 : UInt8))) : Int) = 45) else false) (.side ((0 : Int) ≤ 1 ∧ (1 : Int) ≤ s.length) (.ite (decide (List.drop 1 (List.take s.length s) = Array.toList #[(48 : UInt8)])) (.leaf (.ret [.int .i64 12] [])) (.side (decide (List.drop 1 (List.take s.length s) = Array.toList #[]) = false → (0 : Int) ≤ 0 ∧ (0 : Int) < (↑(List.length (List.drop 1 (List.take s.length s))) : Int)) (.ite (bif decide (List.drop 1 (List.take s.length s) = Array.toList #[]) then true else bif decide ((↑(UInt8.toNat (List.getD (List.drop 1 (List.take s.length s)) 0 (0 : UInt8))) : Int) = 48) then decide ((1 : Int) < (↑(List.length (List.drop 1 (List.take s.length s))) : Int)) else false) (.leaf (.ret [.int .i64 12] [])) (.leaf (.loop (Prod.fst (lps K94 0)) (Prod.snd (lps K94 0)) [(3, .str (List.drop 1 (List.take s.length s))), (31, .int .i64 (↑(List.length (List.drop 1 (List.take s.length s))) : Int)), (32, .int .i64 0), (40, .undef), (41, .undef), (42, .undef), (43, .undef)] [])))))) (.side (decide (s = Array.toList #[]) = false → (0 : Int) ≤ 0 ∧ (0 : Int) < s.length) (.ite (bif decide (s = Array.toList #[]) then true else bif decide ((↑(UInt8.toNat (List.getD s 0 (0 : UInt8))) : Int) = 48) then decide ((1 : Int) < s.length) else false) (.leaf (.ret [.int .i64 12] [])) (.leaf (.loop (Prod.fst (lps K94 0)) (Prod.snd (lps K94 0)) [(3, .str s), (31, .int .i64 s.length), (32, .int .i64 0), (40, .undef), (41, .undef), (42, .undef), (43, .undef)] [])))))) (by kernel_rfl) ?_
 simp only [Tree.holds, zd, inR, lo, hi, Bool.cond_eq_ite]
 cases s with
 | nil =>
  simp only [errI, parse, zU] at hq
  refine ⟨by simp, fun _ => ⟨fun h => by simp at h, fun _ => ⟨by simp, fun _ => ⟨fun _ => ?_, fun h => by simp at h⟩⟩⟩⟩
  exact RetR.scal hq rfl (by simp [resV])
 | cons c b =>
  refine ⟨by simp, fun _ => ⟨fun h => ?_, fun h => ?_⟩⟩
  ·have hc : c = 45 := by
    simp at h
    have : c.toNat = 45 := by omega
    exact UInt8.toNat_inj.1 this
   subst hc
   have hp : parse (45 :: b) = (true, b) := rfl
   have hd : List.drop 1 (List.take (45 :: b).length (45 :: b)) = b := by simp
   rw [hd]
   simp only [errI, hp] at hq
   refine ⟨by simp; omega, fun _ => ⟨fun h0 => ?_, fun h0 => ⟨fun hne => ?_, fun _ => ⟨fun hbad => ?_, fun hgood => ?_⟩⟩⟩⟩
   ·have hb : b = [48] := by simpa using h0
    subst hb
    exact RetR.scal hq rfl rfl
   ·have : b ≠ [] := by simpa using hne
    have := List.length_pos_iff.2 this
    omega
   ·have hnf : zU true b = false := by
     by_cases hb : b = []
     ·subst hb; rfl
     ·rw [if_neg (by simpa using hb)] at hbad
      split at hbad
      ·rename_i h48
       have : b.getD 0 0 = 48 := xc (of_decide_eq_true h48)
       have hl : 1 < b.length := by simp at hbad; omega
       exact w7 this hl
      ·cases hbad
    rw [hnf] at hq
    exact RetR.scal hq rfl (by simp [resV])
   ·have hf : b.all isD = true → zU true b = true := by
     intro hall
     have hb : b ≠ [] := by
      intro hb; subst hb; simp at hgood
     have hb2 : b ≠ [48] := by simpa using h0
     rw [if_neg (by simpa using hb)] at hgood
     have h3 : ¬ (b.getD 0 0 = 48 ∧ 1 < b.length) := by
      rintro ⟨g1, g2⟩
      rw [g1] at hgood
      rw [if_pos (by decide)] at hgood
      simp at hgood; omega
     simp only [zU, hall, hb, hb2, Bool.and_true]
     simp only [decide_false, Bool.not_false, Bool.and_false, Bool.true_and, Bool.not_eq_true', Bool.and_eq_false_iff, decide_eq_false_iff_not]
     by_cases g1 : b.getD 0 0 = 48
     ·exact .inr fun g2 => h3 ⟨g1, g2⟩
     ·exact .inl g1
    exact uU b (by simp at hs; omega) hf hq
  ·have hc : c ≠ 45 := by
    rintro rfl
    simp at h
   have hp : parse (c :: b) = (false, c :: b) := by simp [parse, hc]
   simp only [errI, hp] at hq
   obtain ⟨s, hs'⟩ : ∃ s, c :: b = s := ⟨_, rfl⟩
   have hne : s ≠ [] := by rw [← hs']; simp
   rw [hs'] at hq hs ⊢
   refine ⟨fun _ => ⟨by omega, by have := List.length_pos_iff.2 hne; omega⟩, fun _ => ⟨fun hbad => ?_, fun hgood => ?_⟩⟩
   ·have hnf : zU false s = false := by
     rw [if_neg (by simpa using hne)] at hbad
     split at hbad
     ·rename_i h48
      have : s.getD 0 0 = 48 := xc (of_decide_eq_true h48)
      have hl : 1 < s.length := by simp at hbad; omega
      exact w7 this hl
     ·cases hbad
    rw [hnf] at hq
    exact RetR.scal hq rfl (by simp [resV])
   ·have hf : s.all isD = true → zU false s = true := by
     intro hall
     rw [if_neg (by simpa using hne)] at hgood
     have h3 : ¬ (s.getD 0 0 = 48 ∧ 1 < s.length) := by
      rintro ⟨g1, g2⟩
      rw [g1] at hgood
      rw [if_pos (by decide)] at hgood
      simp at hgood; omega
     simp only [zU, hall, hne, Bool.and_true]
     simp only [decide_false, Bool.not_false, Bool.false_and, Bool.true_and, Bool.not_eq_true', Bool.and_eq_false_iff, decide_eq_false_iff_not]
     by_cases g1 : s.getD 0 0 = 48
     ·exact .inr fun g2 => h3 ⟨g1, g2⟩
     ·exact .inl g1
    exact uU s hs hf hq
def numV (neg : Bool) (x : Nat) : AV := .agg [.bool neg, magS x]
def yZ : Ctr := ctrP false (fun p : List UInt8 × List UInt8 => [.str p.1, .str p.2]) (fun p => p.1.length < 2 ^ 62 ∧ p.2.length < 2 ^ 62) (fun p (r : Int × (Bool × Nat) × (Bool × Nat)) => r = if zl p.1 p.2 = 0 then (0, (negI p.1, numI p.1), (negI p.2, numI p.2)) else (zl p.1 p.2, (false, 0), (false, 0)))
 (fun _ r => (.tup [numV r.2.1.1 r.2.1.2, numV r.2.2.1 r.2.2.2, .int .i64 r.1], []))
def G5 : Nat → Option Ctr := fun f => if f = 94 then some (uW) else if f = 102 then some (zbo) else none
theorem zg9 : ∀ g c, G5 g = some c → zc Tryz.prog g c := okIf ZK (okIf zd3 (okNone))
theorem zew : canon 0 = [] := by simp [canon]
theorem QD : zc Tryz.prog 64 yZ := by
 refine ze (fn := Tryz.f64) (c := Tryz.f64.body.getD .skip) rfl rfl rfl fun p hp O w0 Q hq => ?_
 obtain ⟨s, t⟩ := p
 obtain ⟨hs, ht⟩ := hp
 replace hq := hq _ rfl
 simp only at hs ht hq
 refine zb.run hmix zg9 [] 400 (T := .ex (fun (x : List UInt8) => eqL [AV.str s] [AV.str x] ∧ x.length < 4611686018427387904) fun n => .all (fun (r : Int) => r = errI n) fun n => .ite (decide (n = 0)) (.ex (fun (x : List UInt8) => eqL [AV.str t] [AV.str x] ∧ x.length < 4611686018427387904) fun n => .all (fun (r : Int) => r = errI n) fun n => .ite (!decide (n = 0)) (.leaf (.ret [.agg [.bool false, .nils], .agg [.bool false, .nils], .int .i64 n] [.box [.bool false, .nils], .box [.bool false, .nils]])) (.ex (fun (x : Bool × List UInt8) => eqL [AV.str s] [AV.str (sgn x.1 x.2)] ∧ allD x.2 ∧ x.2 ≠ [] ∧ x.2.length ≤ 1000000) fun n => .all (fun (r : Nat) => r = numD n.2) fun n_1 => .ex (fun (x : Bool × List UInt8) => eqL [AV.str t] [AV.str (sgn x.1 x.2)] ∧ allD x.2 ∧ x.2 ≠ [] ∧ x.2.length ≤ 1000000) fun n_2 => .all (fun (r : Nat) => r = numD n_2.2) fun n_3 => .leaf (.ret [.agg [.bool n.1, .sl (canon n_1).length 1 (natG .u32 (canon n_1))], .agg [.bool n_2.1, .sl (canon n_3).length 1 (natG .u32 (canon n_3))], .int .i64 0] [.box [.bool n.1, .sl (canon n_1).length 1 (natG .u32 (canon n_1))], .box [.bool n_2.1, .sl (canon n_3).length 1 (natG .u32 (canon n_3))]]))) (.ite (!decide (n = 0)) (.leaf (.ret [.agg [.bool false, .nils], .agg [.bool false, .nils], .int .i64 n] [.box [.bool false, .nils], .box [.bool false, .nils]])) (.ex (fun (x : Bool × List UInt8) => eqL [AV.str s] [AV.str (sgn x.1 x.2)] ∧ allD x.2 ∧ x.2 ≠ [] ∧ x.2.length ≤ 1000000) fun n => .all (fun (r : Nat) => r = numD n.2) fun n_1 => .ex (fun (x : Bool × List UInt8) => eqL [AV.str t] [AV.str (sgn x.1 x.2)] ∧ allD x.2 ∧ x.2 ≠ [] ∧ x.2.length ≤ 1000000) fun n_2 => .all (fun (r : Nat) => r = numD n_2.2) fun n_3 => .leaf (.ret [.agg [.bool n.1, .sl (canon n_1).length 1 (natG .u32 (canon n_1))], .agg [.bool n_2.1, .sl (canon n_3).length 1 (natG .u32 (canon n_3))], .int .i64 0] [.box [.bool n.1, .sl (canon n_1).length 1 (natG .u32 (canon n_1))], .box [.bool n_2.1, .sl (canon n_3).length 1 (natG .u32 (canon n_3))]])))) (by kernel_rfl) ?_
 have bad : ∀ h, zl s t ≠ 0 → RetR yZ 0 Q [.agg [.bool false, .nils], .agg [.bool false, .nils], .int .i64 (zl s t)] h := by
  intro h he
  rw [if_neg he] at hq
  refine RetR.out0 hq (fun h => by simp [yZ, ctrP] at h) ?_
  simp [resV, exp2, exp1, exp0, ren0, eqA2, eqL1, eqA, eqL0, eqA0, numV, magS, natS, zew]
 have good : ∀ h, zl s t = 0 → RetR yZ 0 Q [.agg [.bool (negI s), magS (numI s)], .agg [.bool (negI t), magS (numI t)], .int .i64 0] h := by
  intro h he
  rw [if_pos he] at hq
  refine RetR.out0 hq (fun h => by simp [yZ, ctrP] at h) ?_
  simp [resV, exp2, exp1, exp0, ren0, eqA2, eqL1, eqA, eqL0, eqA0, numV, magS, natS, za]
 have rd : ∀ u, errI u = 0 → eqL [AV.str u] [AV.str (sgn (negI u) (parse u).2)] ∧ allD (parse u).2 ∧ (parse u).2 ≠ [] ∧ (parse u).2.length ≤ 1000000 := by
  intro u hu
  obtain ⟨h1, h2, h3, h4⟩ := ku hu
  exact ⟨by simpa using h1, h2, h3, by omega⟩
 simp only [Tree.holds, zd]
 refine ⟨s, ⟨by simp, by omega⟩, ?_⟩
 refine ⟨⟨_, rfl⟩, ?_⟩
 rintro _ rfl
 refine ⟨fun h1 => ?_, fun h1 => ?_⟩
 ·have h1 : errI s = 0 := by simpa using h1
  refine ⟨t, ⟨by simp, by omega⟩, ?_⟩
  refine ⟨⟨_, rfl⟩, ?_⟩
  rintro _ rfl
  refine ⟨fun h2 => ?_, fun h2 => ?_⟩
  ·have h2 : errI t ≠ 0 := by simpa using h2
   have e : zl s t = errI t := by simp [zl, h1]
   rw [← e]
   exact bad _ (by rw [e]; exact h2)
  ·have h2 : errI t = 0 := by simpa using h2
   refine ⟨(negI s, (parse s).2), rd s h1, ?_⟩
   refine ⟨⟨_, rfl⟩, ?_⟩
   rintro _ rfl
   refine ⟨(negI t, (parse t).2), rd t h2, ?_⟩
   refine ⟨⟨_, rfl⟩, ?_⟩
   rintro _ rfl
   exact good _ (zf.2 ⟨h1, h2⟩)
 ·have h1 : errI s ≠ 0 := by simpa using h1
  have e : zl s t = errI s := by simp [zl, h1]
  refine ⟨fun h2 => ?_, fun h2 => absurd (by simpa using h2) h1⟩
  rw [← e]
  exact bad _ (by rw [e]; exact h1)
def G6 : Nat → Option Ctr := fun f => if f = 64 then some (yZ) else if f = 123 then some (xZ) else if f = 65 then some (uQ) else none
theorem zdl : ∀ g c, G6 g = some c → zc Tryz.prog g c := okIf QD (okIf Ql (okIf Zq (okNone)))
def gcdC : Ctr := ctrP true (fun p : List UInt8 × List UInt8 => [.str p.1, .str p.2]) (fun p => p.1.length < 2 ^ 62 ∧ p.2.length < 2 ^ 62) (fun p r => r = gcdR p.1 p.2) (fun _ r => (.tup [.str r.1, .int .i64 r.2], []))
def SGc : KV := [(6, .ptr 0 0), (7, .ptr 1 0)]
def HGc (m n : Bool) (x y : Nat) : Heap := [.box [.bool m, magS x], .box [.bool n, magS y]]
theorem jn {x : Nat} : x < B ^ 112 ↔ (canon x).length ≤ 112 := by
 refine ⟨fun h => zu h, fun h => ?_⟩
 have h1 := z8 (zg x)
 rw [zi] at h1
 exact Nat.lt_of_lt_of_le h1 (Nat.pow_le_pow_right (by decide) h)
theorem kW {x : Nat} : (canon x).length = 0 ↔ x = 0 := by
 constructor
 ·intro h
  have := zi x
  rw [List.length_eq_zero_iff.1 h] at this
  exact this.symm
 ·rintro rfl; simp [canon]
theorem zav : zc Tryz.prog 95 gcdC := by
 refine ze (fn := Tryz.f95) (c := Tryz.f95.body.getD .skip) rfl rfl rfl fun p hp O w0 Q hq => ?_
 obtain ⟨s, t⟩ := p
 obtain ⟨hs, ht⟩ := hp
 replace hq := hq _ rfl
 simp only at hs ht hq
 refine zb.run hmix zdl [6, 7] 400 (T := .ex (fun (x : List UInt8 × List UInt8) => eqL [AV.str s, AV.str t] [AV.str x.1, AV.str x.2] ∧ x.1.length < 4611686018427387904 ∧ x.2.length < 4611686018427387904) fun n => .all (fun (r : Int × (Bool × Nat) × Bool × Nat) => r = if zl n.1 n.2 = 0 then ((0 : Int), (negI n.1, numI n.1), negI n.2, numI n.2) else (zl n.1 n.2, (false, 0), false, 0)) fun n => .ite (!decide (n.1 = 0)) (.leaf (.ret [.str (Array.toList #[]), .int .i64 n.1] [.box [.bool (Prod.fst (n.2.1)), .sl (List.length (canon (Prod.snd (n.2.1)))) 1 (natG .u32 (canon (Prod.snd (n.2.1))))], .box [.bool (Prod.fst (n.2.2)), .sl (List.length (canon (Prod.snd (n.2.2)))) 1 (natG .u32 (canon (Prod.snd (n.2.2))))]])) (.leaf (.loop (Prod.fst (lps K95 0)) (Prod.snd (lps K95 0)) [(6, .ptr 0 0), (7, .ptr 1 0)] [.box [.bool (Prod.fst (n.2.1)), .sl (List.length (canon (Prod.snd (n.2.1)))) 1 (natG .u32 (canon (Prod.snd (n.2.1))))], .box [.bool (Prod.fst (n.2.2)), .sl (List.length (canon (Prod.snd (n.2.2)))) 1 (natG .u32 (canon (Prod.snd (n.2.2))))]]))) (by kernel_rfl) ?_
 simp only [Tree.holds, zd]
 refine ⟨(s, t), ⟨by simp, hs, ht⟩, ⟨_, rfl⟩, ?_⟩
 rintro _ rfl
 refine ⟨fun he => ?_, fun he => ?_⟩
 ·have he : zl s t ≠ 0 := by
   intro h; simp [h] at he
  have e : gcdR s t = ([], zl s t) := by simp [gcdR, he]
  simp only [if_neg he]
  rw [e] at hq
  exact RetR.scal hq rfl (by simp [resV])
 ·have he : zl s t = 0 := by
   refine Decidable.byContradiction fun h => ?_
   simp [h] at he
  simp only [if_pos he]
  have e : gcdR s t = wr false (Nat.gcd (numI s) (numI t)) := by simp [gcdR, he]
  rw [e] at hq
  obtain ⟨h1, h2⟩ := zf.1 he
  have b1 := jn.2 (xo h1)
  have b2 := jn.2 (xo h2)
  clear e he h1 h2 hs ht
  generalize numI s = x0 at *
  generalize numI t = y0 at *
  refine zb.loop (ι := {z : Bool × Bool × Nat × Nat // Nat.gcd z.2.2.1 z.2.2.2 = Nat.gcd x0 y0 ∧ z.2.2.1 < B ^ 112 ∧ z.2.2.2 < B ^ 112}) (fun _ => SGc) (fun z => HGc z.1.1 z.1.2.1 z.1.2.2.1 z.1.2.2.2) (fun z => z.1.2.2.2) ⟨(negI s, negI t, x0, y0), rfl, b1, b2⟩ 0 ?_ ?_ (by kernel_rfl)
  ·exact ⟨by simp [SGc], by simp [HGc, magS, natS, za], by kernel_rfl, Nat.zero_le _⟩
  ·rintro ⟨⟨m, n, x, y⟩, hg, hx, hy⟩
   simp only at hg hx hy
   refine zb.run hmix zdl [6, 7] 400 (T := .ite (decide ((0 : Int) < (↑(canon y).length : Int))) (.ex (fun (x_1 : Nat × Nat) => eqL [AV.sl (canon x).length 1 (natG .u32 (canon x)), AV.sl (canon y).length 1 (natG .u32 (canon y))] [AV.sl (canon x_1.1).length 1 (natG .u32 (canon x_1.1)), AV.sl (canon x_1.2).length 1 (natG .u32 (canon x_1.2))] ∧ List.length (canon x_1.1) < 100000 ∧ List.length (canon x_1.2) < 100000 ∧ 0 < x_1.2) fun n_1 => .all (fun (r : Nat × Nat) => r = (n_1.1 / n_1.2, n_1.1 % n_1.2)) fun n_2 => .leaf (.back 0 [(6, .ptr 0 0), (7, .ptr 1 0)] [.box [.bool m, .sl (canon y).length 1 (natG .u32 (canon y))], .box [.bool n, .sl (canon n_2.2).length 1 (natG .u32 (canon n_2.2))]])) (.ex (fun (x_1 : Bool × Nat) => eqL [AV.agg [AV.bool false, AV.sl (canon x).length 1 (natG .u32 (canon x))]] [AV.agg [AV.bool x_1.1, AV.sl (canon x_1.2).length 1 (natG .u32 (canon x_1.2))]] ∧ List.length (canon x_1.2) < 1000000) fun n_1 => .all (fun (r : List UInt8 × Int) => r = wr n_1.1 n_1.2) fun n_2 => .leaf (.ret [.str n_2.1, .int .i64 n_2.2] [.box [.bool m, .sl (canon x).length 1 (natG .u32 (canon x))], .box [.bool n, .sl (canon y).length 1 (natG .u32 (canon y))]]))) (by kernel_rfl) ?_
   simp only [Tree.holds, zd, inR, lo, hi]
   refine ⟨fun h0 => ?_, fun h0 => ?_⟩
   ·have hy0 : 0 < y := by
     rcases Nat.eq_zero_or_pos y with h | h
     ·rw [h] at h0; simp [canon] at h0
     ·exact h
    refine ⟨(x, y), ⟨by simp [za], ?_, ?_, hy0⟩, ⟨_, rfl⟩, ?_⟩
    ·have := jn.1 hx; show (canon x).length < 100000; omega
    ·have := jn.1 hy; show (canon y).length < 100000; omega
    rintro _ rfl
    simp only
    rw [if_pos trivial]
    refine ⟨⟨(m, n, y, x % y), ?_, hy, Nat.lt_trans (Nat.mod_lt x hy0) hy⟩, Nat.mod_lt x hy0, by simp [SGc], by simp [HGc, magS, natS, za], by kernel_rfl, Nat.zero_le _⟩
    show Nat.gcd y (x % y) = Nat.gcd x0 y0
    rw [← hg, Nat.gcd_comm x y, Nat.gcd_rec y x, Nat.gcd_comm]
   ·have hy0 : y = 0 := kW.1 (by have h0 := of_decide_eq_false h0; omega)
    subst hy0
    refine ⟨(false, x), ⟨by simp [za], ?_⟩, ⟨_, rfl⟩, ?_⟩
    ·have := jn.1 hx; show (canon x).length < 1000000; omega
    rintro _ rfl
    rw [Nat.gcd_zero_right] at hg
    rw [← hg] at hq
    exact RetR.scal hq rfl (by simp [resV])
end Go.Proofs.Tryz
end

/- The reference's integers: digits and comparing. -/
section
set_option maxRecDepth 100000
open Go Go.Sx Go.Proofs Go.Nov
namespace Go.Proofs.Tryz
attribute [local simp] eqKV eqA eqA0 eqH eqB eqL eqL0
noncomputable def K134 : List Go.Sx.Item := [.code (Tryz.f134.body.getD .skip)]
noncomputable def K118 : List Go.Sx.Item := [.code (Tryz.f118.body.getD .skip)]
noncomputable def K119 : List Go.Sx.Item := [.code (Tryz.f119.body.getD .skip)]
theorem ke {h : Heap} {i sz off n n' : Nat} {g : Nat → Nat → AV} (hb : h[i]? = some (.arr n' sz g)) (hn : off + n ≤ n') : exp0 h [] (.osl i sz off n) = .sl n sz (zj g off) := by
 simp [exp0, zF, frz1, wa, hb, hn]
theorem Z4 {h : Heap} {i sz off n n' : Nat} {g : Nat → Nat → AV} (hb : h[i]? = some (.arr n' sz g)) (hn : off + n ≤ n') (hs : ∀ j o, j < n → o < sz → zO (zj g off j o) = true) : new0 h [] (.osl i sz off n) := by
 simp only [new0]
 intro _
 rw [ke hb hn]
 exact hs
theorem Wr (k : IntKind) (l : List Nat) (off j o : Nat) : zO (zj (natG k l) off j o) = true := by
 simp [zj, natG, zO]
theorem Xl (g : Nat → Nat → AV) : zj g 0 = g := by
 funext j o; simp [zj]
theorem RetR.nats {ctr : Ctr} {Q : AV × Heap → Prop} {h : Heap} {i : Nat} {k : IntKind} {l : List Nat} (hq : Q (natS k l, [])) (hb : h[i]? = some (.arr l.length 1 (natG k l))) : RetR ctr 0 Q [.osl i 1 0 l.length] h := by
 refine RetR.out0 hq (fun _ => ?_) ?_
 ·exact Z4 hb (by omega) fun j o _ _ => Wr _ _ _ _ _
 ·have e : exp2 h [] (resV [.osl i 1 0 l.length]) = exp0 h [] (.osl i 1 0 l.length) := rfl
  rw [e, ke hb (by omega), Xl]
  simp [eqA2, natS, za]
abbrev nat6 (l : List Nat) : AV := natS .i64 l
def atC : Ctr := ctrP true (fun p : List Nat × Nat => [nat6 p.1, .int .i64 (p.2 : Int)]) (fun p => True) (fun p r => r = p.1.getD p.2 0) (fun _ (r : Nat) => (.int .i64 (r : Int), []))
theorem zee : zc Tryz.prog 134 atC := by
 refine ze (fn := Tryz.f134) (c := Tryz.f134.body.getD .skip) rfl rfl rfl fun p hp O w0 Q hq => ?_
 obtain ⟨l, i⟩ := p
 replace hq := hq _ rfl
 simp only at hq
 refine zb.run hmix zo [] 400 (T := .ite (decide ((↑i : Int) < l.length)) (.side ((0 : Int) ≤ i ∧ (↑i : Int) < l.length) (.leaf (.ret [.int .i64 (↑(List.getD l (Int.toNat (↑i : Int)) 0) : Int)] []))) (.leaf (.ret [.int .i64 0] []))) (by kernel_rfl) ?_
 simp only [Tree.holds, zd, inR, lo, hi, Int.toNat_natCast]
 refine ⟨fun h => ?_, fun h => ?_⟩
 ·have h : i < l.length := by have := of_decide_eq_true h; omega
  exact ⟨by omega, fun _ => RetR.scal hq rfl (by simp [resV])⟩
 ·have h : l.length ≤ i := by have := of_decide_eq_false h; omega
  rw [jT h] at hq
  exact RetR.scal hq rfl (by simp [resV])
def xG : Ctr := ctrP true (fun p : List Nat × List Nat => [nat6 p.1, nat6 p.2]) (fun p => Ten.dig p.1 ∧ Ten.dig p.2 ∧ p.1.length < 2 ^ 62 ∧ p.2.length < 2 ^ 62) (fun p r => r = cmpN (Ten.val p.1) (Ten.val p.2)) (fun _ (r : Int) => (.int .i64 r, []))
def SGr (l m : List Nat) (i : Nat) : KV := [(0, nat6 l), (1, nat6 m), (5, .int .i64 ((i : Int) - 1))]
def GR : Nat → Option Ctr := fun f => if f = 134 then some (atC) else none
theorem Xk : ∀ g c, GR g = some c → zc Tryz.prog g c := okIf zee (okNone)
theorem xp : zc Tryz.prog 118 xG := by
 refine ze (fn := Tryz.f118) (c := Tryz.f118.body.getD .skip) rfl rfl rfl fun p hp O w0 Q hq => ?_
 obtain ⟨l, m⟩ := p
 obtain ⟨hl, hm, hll, hml⟩ := hp
 replace hq := hq _ rfl
 simp only at hq hl hm hll hml
 refine zb.run hmix Xk [0, 1, 5] 400 (T := .side (inR .i64 (max (↑l.length : Int) (↑m.length : Int) - (1 : Int))) (.leaf (.loop (Prod.fst (lps K118 0)) (Prod.snd (lps K118 0)) [(0, .sl l.length 1 (natG .i64 l)), (1, .sl m.length 1 (natG .i64 m)), (5, .int .i64 (max (↑l.length : Int) (↑m.length : Int) - (1 : Int)))] []))) (by kernel_rfl) ?_
 simp only [Tree.holds, zd, inR, lo, hi, Int.toNat_natCast]
 refine ⟨by omega, fun _ => ?_⟩
 refine zb.loop (ι := {i : Nat // i ≤ max l.length m.length ∧ ∀ j, i ≤ j → l.getD j 0 = m.getD j 0}) (fun i => SGr l m i.1) (fun _ => []) (fun i => i.1) ⟨max l.length m.length, Nat.le_refl _, fun j hj => by rw [jT (by omega), jT (by omega)]⟩ 0 ?_ ?_ (by kernel_rfl)
 ·exact ⟨by simp [SGr, natS, za]; omega, by simp, by kernel_rfl, Nat.zero_le _⟩
 ·rintro ⟨i, hil, hie⟩
  refine zb.run hmix Xk [0, 1, 5] 400 (T := .ite (decide ((0 : Int) ≤ i - (1 : Int))) (.ex (fun (x : List Nat × Nat) => eqL [AV.sl l.length 1 (natG .i64 l), AV.int .i64 ((↑i : Int) - (1 : Int))] [AV.sl x.1.length 1 (natG .i64 x.1), AV.int .i64 x.2] ∧ True) fun n => .all (fun (r : Nat) => r = List.getD n.1 n.2 0) fun n => .ex (fun (x : List Nat × Nat) => eqL [AV.sl m.length 1 (natG .i64 m), AV.int .i64 ((↑i : Int) - (1 : Int))] [AV.sl x.1.length 1 (natG .i64 x.1), AV.int .i64 x.2] ∧ True) fun n_1 => .all (fun (r : Nat) => r = List.getD n_1.1 n_1.2 0) fun n_2 => .ite (!decide ((↑n : Int) = n_2)) (.ex (fun (x : List Nat × Nat) => eqL [AV.sl l.length 1 (natG .i64 l), AV.int .i64 ((↑i : Int) - (1 : Int))] [AV.sl x.1.length 1 (natG .i64 x.1), AV.int .i64 x.2] ∧ True) fun n => .all (fun (r : Nat) => r = List.getD n.1 n.2 0) fun n => .ex (fun (x : List Nat × Nat) => eqL [AV.sl m.length 1 (natG .i64 m), AV.int .i64 ((↑i : Int) - (1 : Int))] [AV.sl x.1.length 1 (natG .i64 x.1), AV.int .i64 x.2] ∧ True) fun n_3 => .all (fun (r : Nat) => r = List.getD n_3.1 n_3.2 0) fun n_4 => .ite (decide ((↑n_4 : Int) < n)) (.leaf (.ret [.int .i64 1] [])) (.leaf (.ret [.int .i64 (-1 : Int)] []))) (.side (inR .i64 ((↑i : Int) - (1 : Int) - (1 : Int))) (.leaf (.back 0 [(0, .sl l.length 1 (natG .i64 l)), (1, .sl m.length 1 (natG .i64 m)), (5, .int .i64 ((↑i : Int) - (1 : Int) - (1 : Int)))] [])))) (.leaf (.ret [.int .i64 0] []))) (by kernel_rfl) ?_
  simp only [Tree.holds, zd, inR, lo, hi, Int.toNat_natCast]
  refine ⟨fun hlt => ?_, fun hge => ?_⟩
  ·have hlt : 0 < i := by have := of_decide_eq_true hlt; omega
   have e : (i : Int) - 1 = ((i - 1 : Nat) : Int) := by omega
   refine ⟨(l, i - 1), ⟨by simp [za, e], trivial⟩, ⟨_, rfl⟩, ?_⟩
   rintro _ rfl
   refine ⟨(m, i - 1), ⟨by simp [za, e], trivial⟩, ⟨_, rfl⟩, ?_⟩
   rintro _ rfl
   simp only
   refine ⟨fun hne => ?_, fun heq => ⟨by omega, fun _ => ?_⟩⟩
   ·have hne : l.getD (i - 1) 0 ≠ m.getD (i - 1) 0 := by
     intro h; rw [h] at hne; simp at hne
    have hab : ∀ j, i - 1 < j → l.getD j 0 = m.getD j 0 := fun j hj => hie j (by omega)
    refine ⟨(l, i - 1), ⟨by simp [za, e], trivial⟩, ⟨_, rfl⟩, ?_⟩
    rintro _ rfl
    refine ⟨(m, i - 1), ⟨by simp [za, e], trivial⟩, ⟨_, rfl⟩, ?_⟩
    rintro _ rfl
    simp only
    refine ⟨fun h => ?_, fun h => ?_⟩
    ·have h : m.getD (i - 1) 0 < l.getD (i - 1) 0 := by have := of_decide_eq_true h; omega
     have hv := Qb hm (fun j hj => (hab j hj).symm) h
     have : cmpN (Ten.val l) (Ten.val m) = 1 := by simp only [cmpN]; rw [if_neg (by omega), if_pos hv]
     rw [this] at hq
     exact RetR.scal hq rfl (by simp [resV])
    ·have h : l.getD (i - 1) 0 < m.getD (i - 1) 0 := by have := of_decide_eq_false h; omega
     have hv := Qb hl hab h
     have : cmpN (Ten.val l) (Ten.val m) = -1 := by simp only [cmpN]; rw [if_pos hv]
     rw [this] at hq
     exact RetR.scal hq rfl (by simp [resV])
   ·have heq : l.getD (i - 1) 0 = m.getD (i - 1) 0 := by
     refine Decidable.byContradiction fun h => ?_
     have : ¬ ((l.getD (i - 1) 0 : Nat) : Int) = ((m.getD (i - 1) 0 : Nat) : Int) := by omega
     rw [decide_eq_false this] at heq; cases heq
    rw [if_pos trivial]
    refine ⟨⟨i - 1, by omega, fun j hj => ?_⟩, by show i - 1 < i; omega, by simp [SGr, natS, za]; omega, by simp, by kernel_rfl, Nat.zero_le _⟩
    rcases Nat.lt_or_ge j i with h | h
    ·have : j = i - 1 := by omega
     rw [this]; exact heq
    ·exact hie j h
  ·have hge : i = 0 := by have := of_decide_eq_false hge; omega
   subst hge
   have hv := Ze hl hm fun j => hie j (Nat.zero_le _)
   have : cmpN (Ten.val l) (Ten.val m) = 0 := by simp only [cmpN]; rw [if_neg (by omega), if_neg (by omega)]
   rw [this] at hq
   exact RetR.scal hq rfl (by simp [resV])
def zez (p : List Nat × List Nat) (r : List Nat) : Prop := r.length = p.1.length ∧ Ten.dig r ∧ Ten.val r + Ten.val p.2 = Ten.val p.1
def Jn : Ctr := ctrP true (fun p : List Nat × List Nat => [nat6 p.1, nat6 p.2]) (fun p => Ten.dig p.1 ∧ Ten.dig p.2 ∧ p.1.length < 2 ^ 40 ∧ Ten.val p.2 ≤ Ten.val p.1) zez (fun _ r => (nat6 r, []))
def SMi (l m o : List Nat) (b i : Nat) : KV := [(0, nat6 l), (1, nat6 m), (5, .osl 0 1 0 o.length), (6, .int .i64 (b : Int)), (7, .int .i64 (i : Int))]
theorem Qq : zc Tryz.prog 119 Jn := by
 refine ze (fn := Tryz.f119) (c := Tryz.f119.body.getD .skip) rfl rfl rfl fun p hp O w0 Q hq => ?_
 obtain ⟨l, m⟩ := p
 obtain ⟨hl, hm, hll, hml⟩ := hp
 simp only at hq hl hm hll hml
 refine zb.run hmix Xk [0, 1, 5, 6, 7] 400 (T := .leaf (.loop (Prod.fst (lps K119 0)) (Prod.snd (lps K119 0)) [(0, .sl l.length 1 (natG .i64 l)), (1, .sl m.length 1 (natG .i64 m)), (5, .nils), (6, .int .i64 0), (7, .int .i64 0)] [])) (by kernel_rfl) ?_
 simp only [Tree.holds, zd, inR, lo, hi, Int.toNat_natCast]
 refine zb.bear 5 1 (natG .i64 []) rfl (by decide) (by kernel_rfl) ?_
 refine zb.loop (ι := {z : List Nat × Nat × Nat // z.1.length = z.2.2 ∧ z.2.2 ≤ l.length ∧ Ten.dig z.1 ∧ z.2.1 ≤ 1 ∧ Ten.val z.1 + Ten.val (m.take z.2.2) = Ten.val (l.take z.2.2) + 10 ^ z.2.2 * z.2.1}) (fun z => SMi l m z.1.1 z.1.2.1 z.1.2.2) (fun z => [.arr z.1.1.length 1 (natG .i64 z.1.1)]) (fun z => l.length - z.1.2.2) ⟨([], 0, 0), rfl, Nat.zero_le _, by simp [Ten.dig], Nat.zero_le _, by simp [Ten.val]⟩ 0 ?_ ?_ (by kernel_rfl)
 ·refine ⟨by simp [SMi, natS, za, kz], by simp [za], by kernel_rfl, Nat.zero_le _⟩
 ·rintro ⟨⟨o, b, i⟩, hol, hil, hod, hb, hv⟩
  refine zb.run hmix Xk [0, 1, 5, 6, 7] 400 (T := .ite (decide ((↑i : Int) < l.length)) (.side ((0 : Int) ≤ i ∧ (↑i : Int) < l.length) (.ex (fun (x : List Nat × Nat) => eqL [AV.sl m.length 1 (natG .i64 m), AV.int .i64 i] [AV.sl x.1.length 1 (natG .i64 x.1), AV.int .i64 x.2] ∧ True) fun n => .all (fun (r : Nat) => r = List.getD n.1 n.2 0) fun n => .side (inR .i64 ((↑(List.getD l (Int.toNat (↑i : Int)) 0) : Int) - n)) (.side (inR .i64 ((↑(List.getD l (Int.toNat (↑i : Int)) 0) : Int) - n - (↑b : Int))) (.ite (decide ((↑(List.getD l (Int.toNat (↑i : Int)) 0) : Int) - n - (↑b : Int) < 0)) (.side (inR .i64 ((↑(List.getD l (Int.toNat (↑i : Int)) 0) : Int) - n - (↑b : Int) + (10 : Int))) (.side (0 = 0 ∧ o.length ≤ o.length ∧ (o.length + 1) * 8 ≤ 140737488355328) (.side (inR .i64 ((↑i : Int) + (1 : Int))) (.leaf (.back 0 [(0, .sl l.length 1 (natG .i64 l)), (1, .sl m.length 1 (natG .i64 m)), (5, .osl 0 1 0 (o.length + 1)), (6, .int .i64 1), (7, .int .i64 ((↑i : Int) + (1 : Int)))] [.arr (o.length + 1) 1 (appG o.length (natG .i64 o) (zj (zk 1 [.int .i64 ((↑(List.getD l (Int.toNat (↑i : Int)) 0) : Int) - n - (↑b : Int) + (10 : Int))]) 0)), .arr 1 1 (zk 1 [.int .i64 ((↑(List.getD l (Int.toNat (↑i : Int)) 0) : Int) - n - (↑b : Int) + (10 : Int))])]))))) (.side (0 = 0 ∧ o.length ≤ o.length ∧ (o.length + 1) * 8 ≤ 140737488355328) (.side (inR .i64 ((↑i : Int) + (1 : Int))) (.leaf (.back 0 [(0, .sl l.length 1 (natG .i64 l)), (1, .sl m.length 1 (natG .i64 m)), (5, .osl 0 1 0 (o.length + 1)), (6, .int .i64 0), (7, .int .i64 ((↑i : Int) + (1 : Int)))] [.arr (o.length + 1) 1 (appG o.length (natG .i64 o) (zj (zk 1 [.int .i64 ((↑(List.getD l (Int.toNat (↑i : Int)) 0) : Int) - n - (↑b : Int))]) 0)), .arr 1 1 (zk 1 [.int .i64 ((↑(List.getD l (Int.toNat (↑i : Int)) 0) : Int) - n - (↑b : Int))])])))))))) (.leaf (.ret [.osl 0 1 0 o.length] [.arr o.length 1 (natG .i64 o)]))) (by kernel_rfl) ?_
  simp only [Tree.holds, zd, inR, lo, hi, Int.toNat_natCast]
  simp only at hol hil hod hb hv
  refine ⟨fun hlt => ?_, fun hge => ?_⟩
  ·have hlt : i < l.length := by have := of_decide_eq_true hlt; omega
   refine ⟨by omega, fun _ => ?_⟩
   refine ⟨(m, i), ⟨by simp [za], trivial⟩, ⟨_, rfl⟩, ?_⟩
   rintro _ rfl
   simp only
   have h1 : l.getD i 0 < 10 := Ten.zz hl i
   have h2 : m.getD i 0 < 10 := Ten.zz hm i
   have step : ∀ d b', d + m.getD i 0 + b = l.getD i 0 + 10 * b' → Ten.val (o ++ [d]) + Ten.val (m.take (i + 1)) = Ten.val (l.take (i + 1)) + 10 ^ (i + 1) * b' := by
    intro d b' h
    rw [Ten.zy, Ten.zh, Ten.zh, hol, Nat.pow_succ]
    have := Vk hv h
    simpa [Ten.val] using this
   obtain ⟨x, hx⟩ : ∃ x, l.getD i 0 = x := ⟨_, rfl⟩
   obtain ⟨y, hy⟩ : ∃ y, m.getD i 0 = y := ⟨_, rfl⟩
   simp only [hx, hy] at h1 h2 step ⊢
   iterate 2 refine ⟨by clear step; omega, fun _ => ?_⟩
   have ei : ((i : Int) + 1) = ((i + 1 : Nat) : Int) := by omega
   refine ⟨fun hneg => ?_, fun hpos => ?_⟩
   ·have hneg : x < y + b := by have := of_decide_eq_true hneg; clear step; omega
    refine ⟨by clear step; omega, fun _ => ?_⟩
    refine ⟨⟨trivial, Nat.le_refl _, by clear step; omega⟩, fun _ => ⟨by clear step; omega, fun _ => ?_⟩⟩
    rw [if_pos trivial]
    obtain ⟨d, hd⟩ : ∃ d, d + y + b = x + 10 := ⟨x + 10 - y - b, by clear step; omega⟩
    have hd2 : (x : Int) - y - b + 10 = (d : Nat) := by clear step; omega
    refine ⟨⟨(o ++ [d], 1, i + 1), by simp [hol], hlt, Ten.zR.2 ⟨hod, by simp only [Ten.dig, List.mem_singleton]; rintro _ rfl; show _ < 10; clear step; omega⟩, Nat.le_refl _, step d 1 (by clear step; omega)⟩, by show l.length - (i + 1) < l.length - i; omega, ?_, qy hd2, by kernel_rfl, Nat.zero_le _⟩
    simp [SMi, natS, za]
   ·have hpos : y + b ≤ x := by have := of_decide_eq_false hpos; clear step; omega
    refine ⟨⟨trivial, Nat.le_refl _, by clear step; omega⟩, fun _ => ⟨by clear step; omega, fun _ => ?_⟩⟩
    rw [if_pos trivial]
    obtain ⟨d, hd⟩ : ∃ d, d + y + b = x := ⟨x - y - b, by clear step; omega⟩
    have hd2 : (x : Int) - y - b = (d : Nat) := by clear step; omega
    refine ⟨⟨(o ++ [d], 0, i + 1), by simp [hol], hlt, Ten.zR.2 ⟨hod, by simp only [Ten.dig, List.mem_singleton]; rintro _ rfl; show _ < 10; clear step; omega⟩, Nat.zero_le _, step d 0 (by clear step; omega)⟩, by show l.length - (i + 1) < l.length - i; omega, ?_, qy hd2, by kernel_rfl, Nat.zero_le _⟩
    simp [SMi, natS, za]
  ·have hge : i = l.length := by have := of_decide_eq_false hge; omega
   subst hge
   exact RetR.nats (hq o ⟨hol, hod, XY hl hod hol hml hv⟩) rfl
end Go.Proofs.Tryz
end

/- The reference's integers: texts. -/
section
set_option maxRecDepth 100000
open Go Go.Sx Go.Proofs Go.Nov
namespace Go.Proofs.Tryz
attribute [local simp] eqKV eqA eqA0 eqH eqB eqL eqL0
noncomputable def K130 : List Go.Sx.Item := [.code (Tryz.f130.body.getD .skip)]
noncomputable def K132 : List Go.Sx.Item := [.code (Tryz.f132.body.getD .skip)]
noncomputable def K112 : List Go.Sx.Item := [.code (Tryz.f112.body.getD .skip)]
def U2 : Ctr := ctrP true (fun l : List Nat => [nat6 l]) (fun l => Ten.dig l ∧ l.length < 2 ^ 62) (fun l r => r = decide (Ten.val l = 0)) (fun _ (r : Bool) => (.bool r, []))
def GR1 : Nat → Option Ctr := fun f => if f = 118 then some (xG) else none
theorem zf4 : ∀ g c, GR1 g = some c → zc Tryz.prog g c := okIf xp (okNone)
theorem KE : zc Tryz.prog 130 U2 := by
 refine ze (fn := Tryz.f130) (c := Tryz.f130.body.getD .skip) rfl rfl rfl fun l hp O w0 Q hq => ?_
 obtain ⟨hl, hll⟩ := hp
 replace hq := hq _ rfl
 refine zb.run hmix zf4 [] 400 (T := .ex (fun (x : List Nat × List Nat) => eqL [AV.sl l.length 1 (natG .i64 l), AV.nils] [AV.sl x.1.length 1 (natG .i64 x.1), AV.sl x.2.length 1 (natG .i64 x.2)] ∧ Ten.dig x.1 ∧ Ten.dig x.2 ∧ x.1.length < 4611686018427387904 ∧ x.2.length < 4611686018427387904) fun n => .all (fun (r : Int) => r = cmpN (Ten.val n.1) (Ten.val n.2)) fun n => .leaf (.ret [.bool (decide (n = 0))] [])) (by kernel_rfl) ?_
 simp only [Tree.holds, zd]
 refine ⟨(l, []), ⟨by simp [za], hl, by simp [Ten.dig], hll, by simp⟩, ⟨_, rfl⟩, ?_⟩
 rintro _ rfl
 have : decide (cmpN (Ten.val l) (Ten.val []) = 0) = decide (Ten.val l = 0) := by
  have e : Ten.val [] = 0 := rfl
  rw [e]
  by_cases h : Ten.val l = 0
  ·rw [h]; rfl
  ·have : cmpN (Ten.val l) 0 = 1 := by unfold cmpN; rw [if_neg (by omega), if_pos (by omega)]
   rw [this, decide_eq_false h]; rfl
 rw [← this] at hq
 exact RetR.scal hq rfl (by simp [resV])
def yK : Ctr := ctrP true (fun p : List Nat × Bool => [nat6 p.1, .bool p.2]) (fun p => Ten.dig p.1 ∧ p.1.length < 2 ^ 40) (fun p r => r = q5 p.2 (Ten.val p.1)) (fun _ r => (.str r, []))
def STx (l : List Nat) (neg : Bool) (n : Nat) : KV := [(0, nat6 l), (1, .bool neg), (5, .int .i64 (n : Int)), (6, .undef), (7, .undef), (13, .undef), (14, .undef), (15, .undef), (16, .undef), (17, .undef), (18, .undef)]
def STy (l : List Nat) (neg : Bool) (n i : Nat) (b : List Nat) : KV := [(0, nat6 l), (1, .bool neg), (5, .int .i64 (n : Int)), (6, .osl 1 1 0 b.length), (7, .int .i64 ((i : Int) - 1)), (13, .undef), (14, .undef), (15, .undef), (16, .undef), (17, .undef), (18, .undef)]
theorem Q8 {O : Nat → Prop} {w0 : World} {Q : AV × Heap → Prop} {Hs : Nat → KV → Heap → Prop} (l : List Nat) (neg : Bool) (n : Nat) (hl : Ten.dig l) (hll : l.length < 2 ^ 40) (hn : n ≤ l.length) (ht : n = Ten.tlen l) (h0 : 0 < n) (hq : Q (.str (q5 neg (Ten.val l)), [])) (kv : KV) (h : Heap)
  (hle : LeK 0 Tryz.f132.ntmps kv h (STy l neg n n (tbL l neg n n)) [.dead, .arr (tbL l neg n n).length 1 (natG .u8 (tbL l neg n n))]) :
  zb Tryz.prog Tryz.f132 O 0 w0 [] Hs (RetR yK 0 Q) (.code (.loop (lps (inside K132 0) 0).1) :: (lps (inside K132 0) 0).2) (mk Tryz.f132.ntmps kv h) := by
 refine zb.loop (ι := {i : Nat // i ≤ n}) (fun i => STy l neg n i.1 (tbL l neg n i.1)) (fun i => [.dead, .arr (tbL l neg n i.1).length 1 (natG .u8 (tbL l neg n i.1))]) (fun i => i.1) ⟨n, Nat.le_refl _⟩ 0 hle ?_ (by kernel_rfl)
 rintro ⟨i, hin⟩
 obtain ⟨b, hb⟩ : ∃ b, tbL l neg n i = b := ⟨_, rfl⟩
 have hbl := zcf l neg n i
 simp only [hb] at hbl ⊢
 refine zb.run hmix zo [0, 1, 5, 6, 7, 13, 14, 15, 16, 17, 18] 400 (T := .ite (decide ((0 : Int) ≤ i - (1 : Int))) (.side ((0 : Int) ≤ i - (1 : Int) ∧ (↑i : Int) - (1 : Int) < l.length) (.side (inR .i64 ((48 : Int) + (↑(List.getD l (Int.toNat ((↑i : Int) - (1 : Int))) 0) : Int))) (.side (inR .u8 ((48 : Int) + (↑(List.getD l (Int.toNat ((↑i : Int) - (1 : Int))) 0) : Int))) (.side (0 = 0 ∧ b.length ≤ b.length ∧ (b.length + 1) * 1 ≤ 140737488355328) (.side (inR .i64 ((↑i : Int) - (1 : Int) - (1 : Int))) (.leaf (.back 0 [(0, .sl l.length 1 (natG .i64 l)), (1, .bool neg), (5, .int .i64 n), (6, .osl 1 1 0 (b.length + 1)), (7, .int .i64 ((↑i : Int) - (1 : Int) - (1 : Int))), (13, .undef), (14, .undef), (15, .undef), (16, .undef), (17, .undef), (18, .undef)] [.dead, .arr (b.length + 1) 1 (appG b.length (natG .u8 b) (zj (zk 1 [.int .u8 ((48 : Int) + (↑(List.getD l (Int.toNat ((↑i : Int) - (1 : Int))) 0) : Int))]) 0)), .arr 1 1 (zk 1 [.int .u8 ((48 : Int) + (↑(List.getD l (Int.toNat ((↑i : Int) - (1 : Int))) 0) : Int))])]))))))) (.side (∀ (j : Nat), j < b.length → ∃ (b_1 : UInt8), AV.int .u8 (↑(List.getD b (0 + j) 0) : Int) = AV.int .u8 (↑(UInt8.toNat b_1) : Int)) (.leaf (.ret [.str (vA b.length (zj (natG .u8 b) 0))] [.dead, .arr b.length 1 (natG .u8 b)])))) (by kernel_rfl) ?_
 simp only [Tree.holds, zd, inR, lo, hi, Int.toNat_natCast]
 refine ⟨fun hge => ?_, fun hlt => ?_⟩
 ·have hi0 : 0 < i := by have := of_decide_eq_true hge; omega
  have e : ((i : Int) - 1).toNat = i - 1 := by omega
  have hd : l.getD (i - 1) 0 < 10 := Ten.zz hl (i - 1)
  have hst := Uv (l := l) (neg := neg) hi0 hin hn
  rw [hb] at hst
  rw [e]
  obtain ⟨x, hx⟩ : ∃ x, l.getD (i - 1) 0 = x := ⟨_, rfl⟩
  simp only [hx] at hd hst ⊢
  iterate 3 refine ⟨by omega, fun _ => ?_⟩
  refine ⟨⟨trivial, Nat.le_refl _, by omega⟩, fun _ => ⟨by omega, fun _ => ?_⟩⟩
  rw [if_pos trivial]
  refine ⟨⟨i - 1, by omega⟩, by show i - 1 < i; omega, ?_, ?_, by kernel_rfl, Nat.zero_le _⟩
  ·simp only [← hst]
   simp [STy, natS, za]; omega
  ·simp only [← hst]
   exact ⟨trivial, qy (d := 48 + x) (by omega)⟩
 ·have hi0 : i = 0 := by have := of_decide_eq_false hlt; omega
  subst hi0
  refine ⟨fun j hj => ⟨UInt8.ofNat (b.getD (0 + j) 0), ?_⟩, fun _ => ?_⟩
  ·have := zfg hl neg n 0 (0 + j)
   rw [hb] at this
   have e2 : (UInt8.ofNat (b.getD (0 + j) 0)).toNat = b.getD (0 + j) 0 := by rw [UInt8.toNat_ofNat']; exact Nat.mod_eq_of_lt this
   rw [e2]
  ·rw [x2 _ _ _ (Nat.le_refl _), List.take_length, ← hb, Vq hl ht h0]
   exact RetR.scal hq rfl (by simp [resV])
theorem ya : zc Tryz.prog 132 yK := by
 refine ze (fn := Tryz.f132) (c := Tryz.f132.body.getD .skip) rfl rfl rfl fun p hp O w0 Q hq => ?_
 obtain ⟨l, neg⟩ := p
 obtain ⟨hl, hll⟩ := hp
 replace hq := hq _ rfl
 simp only at hq hl hll
 refine zb.run hmix zo [0, 1, 5, 6, 7, 13, 14, 15, 16, 17, 18] 400 (T := .leaf (.loop (Prod.fst (lps K132 0)) (Prod.snd (lps K132 0)) [(0, .sl l.length 1 (natG .i64 l)), (1, .bool neg), (5, .int .i64 l.length), (6, .undef), (7, .undef), (13, .undef), (14, .undef), (15, .undef), (16, .undef), (17, .undef), (18, .undef)] [])) (by kernel_rfl) ?_
 simp only [Tree.holds, zd]
 refine zb.loop (ι := {n : Nat // n ≤ l.length ∧ Ten.tlen l ≤ n}) (fun n => STx l neg n.1) (fun _ => []) (fun n => n.1) ⟨l.length, Nat.le_refl _, Ten.zJ l⟩ 0 ?_ ?_ (by kernel_rfl)
 ·exact ⟨by simp [STx, natS, za], by simp, by kernel_rfl, Nat.zero_le _⟩
 ·rintro ⟨n, hn, ht⟩
  refine zb.run hmix zo [0, 1, 5, 6, 7, 13, 14, 15, 16, 17, 18] 400 (T := .side (decide ((0 : Int) < n) = true → inR .i64 ((↑n : Int) - (1 : Int))) (.side (decide ((0 : Int) < n) = true → (0 : Int) ≤ n - (1 : Int) ∧ (↑n : Int) - (1 : Int) < l.length) (.ite (bif decide ((0 : Int) < n) then decide ((↑(List.getD l (Int.toNat ((↑n : Int) - (1 : Int))) 0) : Int) = 0) else false) (.side (inR .i64 ((↑n : Int) - (1 : Int))) (.leaf (.back 0 [(0, .sl l.length 1 (natG .i64 l)), (1, .bool neg), (5, .int .i64 ((↑n : Int) - (1 : Int))), (6, .undef), (7, .undef), (13, .undef), (14, .undef), (15, .undef), (16, .undef), (17, .undef), (18, .undef)] []))) (.ite (decide ((↑n : Int) = 0)) (.leaf (.ret [.str (Array.toList #[(48 : UInt8)])] [])) (.ite neg (.side (1 ≤ 140737488355328) (.side (inR .i64 ((↑n : Int) - (1 : Int))) (.leaf (.loop (Prod.fst (lps (inside K132 0) 0)) (Prod.snd (lps (inside K132 0) 0)) [(0, .sl l.length 1 (natG .i64 l)), (1, .bool neg), (5, .int .i64 n), (6, .osl 1 1 0 1), (7, .int .i64 ((↑n : Int) - (1 : Int))), (13, .undef), (14, .undef), (15, .undef), (16, .undef), (17, .undef), (18, .undef)] [.arr 1 1 (zk 1 [.int .u8 45]), .arr 1 1 (zj (zk 1 [.int .u8 45]) 0)])))) (.side (inR .i64 ((↑n : Int) - (1 : Int))) (.leaf (.loop (Prod.fst (lps (inside K132 0) 0)) (Prod.snd (lps (inside K132 0) 0)) [(0, .sl l.length 1 (natG .i64 l)), (1, .bool neg), (5, .int .i64 n), (6, .nils), (7, .int .i64 ((↑n : Int) - (1 : Int))), (13, .undef), (14, .undef), (15, .undef), (16, .undef), (17, .undef), (18, .undef)] [])))))))) (by kernel_rfl) ?_
  simp only [Tree.holds, zd, inR, lo, hi, Int.toNat_natCast]
  refine ⟨by omega, fun _ => ⟨fun h => by have := of_decide_eq_true h; omega, fun _ => ⟨fun hz => ?_, fun hz => ?_⟩⟩⟩
  ·have hn0 : 0 < n := by
    rcases Nat.eq_zero_or_pos n with h | h
    ·subst h; simp at hz
    ·exact h
   have e : ((n : Int) - 1).toNat = n - 1 := by omega
   have hz : l.getD (n - 1) 0 = 0 := by
    rw [decide_eq_true (by omega), e] at hz
    have := of_decide_eq_true hz
    omega
   refine ⟨by omega, fun _ => ?_⟩
   rw [if_pos trivial]
   refine ⟨⟨n - 1, by omega, ?_⟩, by show n - 1 < n; omega, by simp [STx, natS, za]; omega, by simp, by kernel_rfl, Nat.zero_le _⟩
   refine Nat.le_of_not_lt fun hlt => ?_
   have hnt : n = Ten.tlen l := by omega
   subst hnt
   exact Ten.zX l hn0 hz
  ·have e : ((n : Int) - 1).toNat = n - 1 := by omega
   have hnt : n = Ten.tlen l := by
    rcases Nat.eq_zero_or_pos n with h | h
    ·omega
    ·refine Nat.le_antisymm (Nat.le_of_not_lt fun hlt => ?_) ht
     have := Ten.qH l (n - 1) (by omega)
     rw [decide_eq_true (by omega), e, this] at hz
     simp at hz
   refine ⟨fun h0 => ?_, fun h0 => ?_⟩
   ·have h0 : n = 0 := by have := of_decide_eq_true h0; omega
    rw [XG (by omega)] at hq
    exact RetR.scal hq rfl (by simp [resV])
   ·have h0 : 0 < n := by have := of_decide_eq_false h0; omega
    refine ⟨fun hneg => ⟨by omega, fun _ => ⟨by omega, fun _ => ?_⟩⟩, fun hneg => ⟨by omega, fun _ => ?_⟩⟩
    ·subst hneg
     refine Q8 l true n hl hll hn hnt h0 hq _ _ ⟨?_, ?_, by kernel_rfl, Nat.zero_le _⟩
     ·simp [STy, natS, za, uw]
     ·simp only [uw, if_true, List.length_singleton]
      refine ⟨trivial, ⟨rfl, rfl, ?_⟩, trivial⟩
      intro j o hj ho
      simpa [zj] using v8 .u8 45 j o hj ho
    ·subst hneg
     refine zb.void (by kernel_rfl) ?_
     refine zb.bear 6 1 (natG .u8 []) rfl (by decide) (by kernel_rfl) ?_
     refine Q8 l false n hl hll hn hnt h0 hq _ _ ⟨?_, ?_, by kernel_rfl, Nat.zero_le _⟩
     ·simp [STy, natS, za, uw, kz]
     ·simp [uw, za]
def wX : Ctr := ctrP true (fun s : List UInt8 => [.str s]) (fun s => s.length < 2 ^ 40) (fun s r => r = digR s) (fun _ r => (.tup [nat6 r.1, .bool r.2.1, .bool r.2.2], []))
def SDi (b : List UInt8) (neg : Bool) (i : Nat) (o : List Nat) : KV := [(5, .str b), (6, .bool neg), (7, .osl 0 1 0 o.length), (8, .int .i64 ((i : Int) - 1)), (49, .undef), (50, .undef), (51, .undef), (52, .undef)]
theorem yS {O : Nat → Prop} {w0 : World} {Q : AV × Heap → Prop} {Hs : Nat → KV → Heap → Prop} (b : List UInt8) (neg : Bool) (hbl : b.length < 2 ^ 40) (hb0 : b ≠ []) (hf : b.all isD = true → zU neg b = true)
  (hq : Q (.tup [nat6 (if zU neg b then (dg b, neg, true) else ([], false, false)).1, .bool (if zU neg b then (dg b, neg, true) else ([], false, false)).2.1, .bool (if zU neg b then (dg b, neg, true) else ([], false, false)).2.2], [])) :
  zb Tryz.prog Tryz.f112 O 0 w0 [] Hs (RetR wX 0 Q) (.code (.loop (lps K112 0).1) :: (lps K112 0).2) (mk Tryz.f112.ntmps [(5, .str b), (6, .bool neg), (7, .nils), (8, .int .i64 ((b.length : Int) - 1)), (49, .undef), (50, .undef), (51, .undef), (52, .undef)] []) := by
 refine zb.bear 7 1 (natG .i64 []) rfl (by decide) (by kernel_rfl) ?_
 refine zb.loop (ι := {i : Nat // i ≤ b.length ∧ ∀ j, i ≤ j → j < b.length → isD (b.getD j 0) = true}) (fun i => SDi b neg i.1 (dg (b.drop i.1))) (fun i => [.arr (dg (b.drop i.1)).length 1 (natG .i64 (dg (b.drop i.1)))]) (fun i => i.1) ⟨b.length, Nat.le_refl _, fun j h1 h2 => by omega⟩ 0 ?_ ?_ (by kernel_rfl)
 ·exact ⟨by simp [SDi, kz, dg], by simp [dg, za], by kernel_rfl, Nat.zero_le _⟩
 ·rintro ⟨i, hil, hid⟩
  have hdl : (dg (b.drop i)).length = b.length - i := by rw [vE, List.length_drop]
  obtain ⟨o, ho⟩ : ∃ o, dg (b.drop i) = o := ⟨_, rfl⟩
  simp only [ho] at hdl ⊢
  refine zb.run hmix zo [5, 6, 7, 8, 49, 50, 51, 52] 400 (T := .ite (decide ((0 : Int) ≤ i - (1 : Int))) (.side ((0 : Int) ≤ i - (1 : Int) ∧ (↑i : Int) - (1 : Int) < b.length) (.side (decide ((↑(UInt8.toNat (List.getD b (Int.toNat ((↑i : Int) - (1 : Int))) (0 : UInt8))) : Int) < 48) = false → (0 : Int) ≤ i - (1 : Int) ∧ (↑i : Int) - (1 : Int) < b.length) (.ite (bif decide ((↑(UInt8.toNat (List.getD b (Int.toNat ((↑i : Int) - (1 : Int))) (0 : UInt8))) : Int) < 48) then true else decide ((57 : Int) < (↑(UInt8.toNat (List.getD b (Int.toNat ((↑i : Int) - (1 : Int))) (0 : UInt8))) : Int))) (.leaf (.ret [.nils, .bool false, .bool false] [.arr o.length 1 (natG .i64 o)])) (.side ((0 : Int) ≤ i - (1 : Int) ∧ (↑i : Int) - (1 : Int) < b.length) (.side (inR .u8 ((↑(UInt8.toNat (List.getD b (Int.toNat ((↑i : Int) - (1 : Int))) (0 : UInt8))) : Int) - (48 : Int))) (.side (inR .i64 ((↑(UInt8.toNat (List.getD b (Int.toNat ((↑i : Int) - (1 : Int))) (0 : UInt8))) : Int) - (48 : Int))) (.side (0 = 0 ∧ o.length ≤ o.length ∧ (o.length + 1) * 8 ≤ 140737488355328) (.side (inR .i64 ((↑i : Int) - (1 : Int) - (1 : Int))) (.leaf (.back 0 [(5, .str b), (6, .bool neg), (7, .osl 0 1 0 (o.length + 1)), (8, .int .i64 ((↑i : Int) - (1 : Int) - (1 : Int))), (49, .undef), (50, .undef), (51, .undef), (52, .undef)] [.arr (o.length + 1) 1 (appG o.length (natG .i64 o) (zj (zk 1 [.int .i64 ((↑(UInt8.toNat (List.getD b (Int.toNat ((↑i : Int) - (1 : Int))) (0 : UInt8))) : Int) - (48 : Int))]) 0)), .arr 1 1 (zk 1 [.int .i64 ((↑(UInt8.toNat (List.getD b (Int.toNat ((↑i : Int) - (1 : Int))) (0 : UInt8))) : Int) - (48 : Int))])])))))))))) (.leaf (.ret [.osl 0 1 0 o.length, .bool neg, .bool true] [.arr o.length 1 (natG .i64 o)]))) (by kernel_rfl) ?_
  simp only [Tree.holds, zd, inR, lo, hi, Int.toNat_natCast, Bool.cond_eq_ite]
  refine ⟨fun hge => ?_, fun hlt => ?_⟩
  ·have hi0 : 0 < i := by have := of_decide_eq_true hge; omega
   have e : ((i : Int) - 1).toNat = i - 1 := by omega
   have hst := zdf hi0 hil
   rw [ho] at hst
   simp only [e]
   refine ⟨by omega, fun _ => ⟨fun _ => by omega, fun _ => ⟨fun hbad => ?_, fun hgood => ⟨by omega, fun _ => ?_⟩⟩⟩⟩
   ·rw [k7] at hbad
    have hnf : zU neg b = false := by
     have : b.all isD = false := by
      rw [List.all_eq_false]
      have hib : i - 1 < b.length := by omega
      refine ⟨b.getD (i - 1) 0, by simp [List.getD, hib], by simpa using hbad⟩
     simp [zU, this]
    rw [hnf] at hq
    refine RetR.out0 hq (fun _ => ?_) ?_
    ·simp [resV, new2, new1, new0, zO]
    ·simp [resV, exp2, exp1, exp0, ren0, eqA2, eqL1, eqA, eqA0, natS]
   ·rw [k7] at hgood
    have hd : isD (b.getD (i - 1) 0) = true := by simpa using hgood
    have hc : 48 ≤ (b.getD (i - 1) 0).toNat ∧ (b.getD (i - 1) 0).toNat ≤ 57 := by simpa [isD] using hd
    obtain ⟨c, hcc⟩ : ∃ c, (b.getD (i - 1) 0).toNat = c := ⟨_, rfl⟩
    simp only [hcc] at hc hst ⊢
    iterate 2 refine ⟨by omega, fun _ => ?_⟩
    refine ⟨⟨trivial, Nat.le_refl _, by omega⟩, fun _ => ⟨by omega, fun _ => ?_⟩⟩
    rw [if_pos trivial]
    refine ⟨⟨i - 1, by omega, fun j h1 h2 => ?_⟩, by show i - 1 < i; omega, ?_, ?_, by kernel_rfl, Nat.zero_le _⟩
    ·rcases Nat.lt_or_ge j i with h | h
     ·have : j = i - 1 := by omega
      subst this; exact hd
     ·exact hid j h h2
    ·simp only [← hst]
     simp [SDi]; omega
    ·simp only [← hst]
     exact qy (d := c - 48) (by omega)
  ·have hi0 : i = 0 := by have := of_decide_eq_false hlt; omega
   subst hi0
   have hall : b.all isD = true := by
    rw [List.all_eq_true]
    intro c hc
    obtain ⟨j, hj, rfl⟩ := List.getElem_of_mem hc
    have := hid j (Nat.zero_le _) hj
    simpa [List.getD, hj] using this
   rw [hf hall] at hq
   have ho : dg b = o := ho
   simp only [if_true, ho] at hq
   have hb : ([.arr o.length 1 (natG .i64 o)] : Heap)[0]? = some (.arr o.length 1 (natG .i64 o)) := rfl
   refine RetR.out0 hq (fun _ => ?_) ?_
   ·simp only [resV, new2, List.mem_cons, List.not_mem_nil, or_false, forall_eq_or_imp, forall_eq]
    exact ⟨Z4 hb (by omega) fun j o _ _ => Wr _ _ _ _ _, rfl, rfl⟩
   ·simp only [resV, exp2, List.map_cons, List.map_nil, exp1]
    rw [ke hb (by omega), Xl]
    simp [eqA2, eqL1, eqA, eqA0, natS, za, exp0, ren0]
theorem vq : zc Tryz.prog 112 wX := by
 refine ze (fn := Tryz.f112) (c := Tryz.f112.body.getD .skip) rfl rfl rfl fun s hs O w0 Q hq => ?_
 replace hq := hq _ rfl
 refine zb.run hmix zo [5, 6, 7, 8, 49, 50, 51, 52] 400 (T := .side (decide ((0 : Int) < s.length) = true → (0 : Int) ≤ 0 ∧ (0 : Int) < s.length) (.ite (bif decide ((0 : Int) < s.length) then decide ((↑(UInt8.toNat (List.getD s 0 (0 : UInt8))) : Int) = 45) else false) (.side ((0 : Int) ≤ 1 ∧ (1 : Int) ≤ s.length) (.side (decide ((↑(List.length (List.drop 1 (List.take s.length s))) : Int) = 0) = false → (0 : Int) ≤ 0 ∧ (0 : Int) < (↑(List.length (List.drop 1 (List.take s.length s))) : Int)) (.ite (bif decide ((↑(List.length (List.drop 1 (List.take s.length s))) : Int) = 0) then true else bif decide ((↑(UInt8.toNat (List.getD (List.drop 1 (List.take s.length s)) 0 (0 : UInt8))) : Int) = 48) then bif decide ((1 : Int) < (↑(List.length (List.drop 1 (List.take s.length s))) : Int)) then true else bif decide ((0 : Int) < s.length) then decide ((↑(UInt8.toNat (List.getD s 0 (0 : UInt8))) : Int) = 45) else false else false) (.leaf (.ret [.nils, .bool false, .bool false] [])) (.side (inR .i64 ((↑(List.length (List.drop 1 (List.take s.length s))) : Int) - (1 : Int))) (.leaf (.loop (Prod.fst (lps K112 0)) (Prod.snd (lps K112 0)) [(5, .str (List.drop 1 (List.take s.length s))), (6, .bool (bif decide ((0 : Int) < s.length) then decide ((↑(UInt8.toNat (List.getD s 0 (0 : UInt8))) : Int) = 45) else false)), (7, .nils), (8, .int .i64 ((↑(List.length (List.drop 1 (List.take s.length s))) : Int) - (1 : Int))), (49, .undef), (50, .undef), (51, .undef), (52, .undef)] [])))))) (.side (decide ((↑s.length : Int) = 0) = false → (0 : Int) ≤ 0 ∧ (0 : Int) < s.length) (.ite (bif decide ((↑s.length : Int) = 0) then true else bif decide ((↑(UInt8.toNat (List.getD s 0 (0 : UInt8))) : Int) = 48) then bif decide ((1 : Int) < s.length) then true else bif decide ((0 : Int) < s.length) then decide ((↑(UInt8.toNat (List.getD s 0 (0 : UInt8))) : Int) = 45) else false else false) (.leaf (.ret [.nils, .bool false, .bool false] [])) (.side (inR .i64 ((↑s.length : Int) - (1 : Int))) (.leaf (.loop (Prod.fst (lps K112 0)) (Prod.snd (lps K112 0)) [(5, .str s), (6, .bool (bif decide ((0 : Int) < s.length) then decide ((↑(UInt8.toNat (List.getD s 0 (0 : UInt8))) : Int) = 45) else false)), (7, .nils), (8, .int .i64 ((↑s.length : Int) - (1 : Int))), (49, .undef), (50, .undef), (51, .undef), (52, .undef)] []))))))) (by kernel_rfl) ?_
 have bad : ∀ h, digR s = ([], false, false) → RetR wX 0 Q [.nils, .bool false, .bool false] h := by
  intro h he
  rw [he] at hq
  refine RetR.out0 hq (fun _ => ?_) ?_
  ·simp [resV, new2, new1, new0, zO]
  ·simp [resV, exp2, exp1, exp0, ren0, eqA2, eqL1, eqA, eqA0, natS]
 have core : ∀ neg b, parse s = (neg, b) → (if decide ((b.length : Int) = 0) = true then true else if decide (((b.getD 0 0).toNat : Int) = 48) = true then if decide (1 < (b.length : Int)) = true then true else neg else false) = true → digR s = ([], false, false) := by
  intro neg b hp h
  have : zU neg b = false := by
   by_cases hb : b = []
   ·subst hb; simp [zU]
   ·have hl : ¬ b.length = 0 := by simpa using hb
    rw [if_neg (by simpa using hl)] at h
    split at h
    ·rename_i h48
     have h48 : b.getD 0 0 = 48 := xc (of_decide_eq_true h48)
     split at h
     ·rename_i h1; exact w7 h48 (by have := of_decide_eq_true h1; omega)
     ·rename_i h1
      subst h
      have : b = [48] := by
       cases b with
       | nil => exact absurd rfl hb
       | cons c b =>
        have hl1 : b = [] := by
         refine List.length_eq_zero_iff.1 ?_
         have : ¬ 1 < (((c :: b).length : Nat) : Int) := fun h => h1 (decide_eq_true h)
         simp only [List.length_cons] at this; omega
        subst hl1
        simp at h48; rw [h48]
      subst this; rfl
    ·cases h
  simp [digR, hp, this]
 have good : ∀ neg b, parse s = (neg, b) → (if decide ((b.length : Int) = 0) = true then true else if decide (((b.getD 0 0).toNat : Int) = 48) = true then if decide (1 < (b.length : Int)) = true then true else neg else false) = false → b ≠ [] ∧ (b.all isD = true → zU neg b = true) := by
  intro neg b hp h
  have hb : b ≠ [] := by rintro rfl; simp at h
  refine ⟨hb, fun hall => ?_⟩
  have hl : ¬ b.length = 0 := by simpa using hb
  rw [if_neg (by simpa using hl)] at h
  simp only [zU, hall, hb, Bool.and_true]
  simp only [decide_false, Bool.not_false, Bool.true_and]
  split at h
  ·rename_i h48
   split at h
   ·cases h
   ·rename_i h1
    subst h
    have : (decide (1 < b.length)) = false := decide_eq_false fun h => h1 (decide_eq_true (by omega))
    simp only [this, Bool.false_and, Bool.and_false, Bool.not_false, Bool.and_self]
  ·rename_i h48
   have e1 : decide (b.getD 0 0 = 48) = false := by
    refine decide_eq_false fun h => h48 ?_
    rw [h]; rfl
   have e2 : decide (b = [48]) = false := by
    refine decide_eq_false fun h => h48 ?_
    rw [h]; rfl
   simp only [e1, e2, Bool.false_and, Bool.and_false, Bool.not_false, Bool.and_self]
 simp only [Tree.holds, zd, inR, lo, hi, Bool.cond_eq_ite]
 refine ⟨fun h => by have := of_decide_eq_true h; omega, fun _ => ⟨fun hneg => ?_, fun hneg => ?_⟩⟩
 ·simp only [hneg]
  obtain ⟨b, rfl⟩ : ∃ b, s = 45 :: b := by
   cases s with
   | nil => simp at hneg
   | cons c b =>
    have : c = 45 := by
     have : ((c.toNat : Nat) : Int) = 45 := by simpa using hneg
     exact xc this
    exact ⟨b, by rw [this]⟩
  have hd : List.drop 1 (List.take (45 :: b).length (45 :: b)) = b := by simp
  rw [hd]
  have hp : parse (45 :: b) = (true, b) := rfl
  refine ⟨by simp; omega, fun _ => ⟨fun h => by have := of_decide_eq_false h; omega, fun _ => ⟨fun h => bad _ (core true b hp h), fun h => ⟨by simp at hs; omega, fun _ => ?_⟩⟩⟩⟩
  obtain ⟨g1, g2⟩ := good true b hp h
  refine yS b true (by simp at hs; omega) g1 g2 ?_
  simpa only [digR, hp] using hq
 ·simp only [hneg]
  have hp : parse s = (false, s) := by
   cases s with
   | nil => rfl
   | cons c b =>
    have : c ≠ 45 := by
     rintro rfl; simp at hneg
    simp [parse, this]
  refine ⟨fun h => by have := of_decide_eq_false h; omega, fun _ => ⟨fun h => bad _ (core false s hp h), fun h => ⟨by omega, fun _ => ?_⟩⟩⟩
  obtain ⟨g1, g2⟩ := good false s hp h
  refine yS s false hs g1 g2 ?_
  simpa only [digR, hp] using hq
end Go.Proofs.Tryz
end

/- The reference's integers: dividing. -/
section
set_option maxRecDepth 100000
open Go Go.Sx Go.Proofs Go.Nov
namespace Go.Proofs.Tryz
attribute [local simp] eqKV eqA eqA0 eqH eqB eqL eqL0
noncomputable def K133 : List Go.Sx.Item := [.code (Tryz.f133.body.getD .skip)]
noncomputable def K115 : List Go.Sx.Item := [.code (Tryz.f115.body.getD .skip)]
noncomputable def K131 : List Go.Sx.Item := [.code (Tryz.f131.body.getD .skip)]
def GR2 : Nat → Option Ctr := fun f => if f = 112 then some (wX) else none
theorem zen : ∀ g c, GR2 g = some c → zc Tryz.prog g c := okIf vq (okNone)
def Ju : Ctr := ctrP true (fun s : List UInt8 => [.str s]) (fun s => s.length < 2 ^ 40) (fun s r => r = errI s) (fun _ (r : Int) => (.int .i64 r, []))
theorem Qd : zc Tryz.prog 133 Ju := by
 refine ze (fn := Tryz.f133) (c := Tryz.f133.body.getD .skip) rfl rfl rfl fun s hs O w0 Q hq => ?_
 replace hq := hq _ rfl
 refine zb.run hmix zen [] 400 (T := .ex (fun (x : List UInt8) => eqL [AV.str s] [AV.str x] ∧ x.length < 1099511627776) fun n => .all (fun (r : List Nat × Bool × Bool) => r = digR n) fun n => .ite (!Prod.snd n.2) (.leaf (.ret [.int .i64 12] [])) (.ite (decide ((1000 : Int) < n.1.length)) (.leaf (.ret [.int .i64 14] [])) (.leaf (.ret [.int .i64 0] [])))) (by kernel_rfl) ?_
 simp only [Tree.holds, zd]
 refine ⟨s, ⟨by simp, hs⟩, ⟨_, rfl⟩, ?_⟩
 rintro _ rfl
 unfold errI at hq
 unfold digR
 cases hf : zU (parse s).1 (parse s).2 with
 | false =>
  rw [hf] at hq
  exact ⟨fun _ => RetR.scal hq rfl (by simp [resV]), fun h => by simp at h⟩
 | true =>
  rw [hf, if_pos rfl] at hq
  refine ⟨fun h => by simp at h, fun _ => ⟨fun h => ?_, fun h => ?_⟩⟩
  ·have h : 1000 < (parse s).2.length := by simp [vE] at h; omega
   rw [if_pos h] at hq
   exact RetR.scal hq rfl (by simp [resV])
  ·have h : ¬ 1000 < (parse s).2.length := by simp [vE] at h; omega
   rw [if_neg h] at hq
   exact RetR.scal hq rfl (by simp [resV])
def GR3 : Nat → Option Ctr := fun f => if f = 133 then some (Ju) else none
theorem zet : ∀ g c, GR3 g = some c → zc Tryz.prog g c := okIf Qd (okNone)
def KU : Ctr := ctrP true (fun p : List UInt8 × List UInt8 => [.str p.1, .str p.2]) (fun p => p.1.length < 2 ^ 40 ∧ p.2.length < 2 ^ 40) (fun p r => r = zl p.1 p.2) (fun _ (r : Int) => (.int .i64 r, []))
theorem Jo : zc Tryz.prog 115 KU := by
 refine ze (fn := Tryz.f115) (c := Tryz.f115.body.getD .skip) rfl rfl rfl fun p hp O w0 Q hq => ?_
 obtain ⟨s, t⟩ := p
 obtain ⟨hs, ht⟩ := hp
 replace hq := hq _ rfl
 simp only at hs ht hq
 refine zb.run hmix zet [] 400 (T := .ex (fun (x : List UInt8) => eqL [AV.str s] [AV.str x] ∧ x.length < 1099511627776) fun n => .all (fun (r : Int) => r = errI n) fun n => .ite (!decide (n = 0)) (.ex (fun (x : List UInt8) => eqL [AV.str s] [AV.str x] ∧ x.length < 1099511627776) fun n => .all (fun (r : Int) => r = errI n) fun n => .leaf (.ret [.int .i64 n] [])) (.ex (fun (x : List UInt8) => eqL [AV.str t] [AV.str x] ∧ x.length < 1099511627776) fun n => .all (fun (r : Int) => r = errI n) fun n => .leaf (.ret [.int .i64 n] []))) (by kernel_rfl) ?_
 simp only [Tree.holds, zd]
 unfold zl at hq
 refine ⟨s, ⟨by simp, hs⟩, ⟨_, rfl⟩, ?_⟩
 rintro _ rfl
 refine ⟨fun h => ?_, fun h => ?_⟩
 ·have h : ¬ errI s = 0 := by simpa using h
  rw [if_neg h] at hq
  refine ⟨s, ⟨by simp, hs⟩, ⟨_, rfl⟩, ?_⟩
  rintro _ rfl
  exact RetR.scal hq rfl (by simp [resV])
 ·have h : errI s = 0 := by simpa using h
  rw [if_pos h] at hq
  refine ⟨t, ⟨by simp, ht⟩, ⟨_, rfl⟩, ?_⟩
  rintro _ rfl
  exact RetR.scal hq rfl (by simp [resV])
def GR4 : Nat → Option Ctr := fun f => if f = 119 then some (Jn) else if f = 118 then some (xG) else none
theorem QR : ∀ g c, GR4 g = some c → zc Tryz.prog g c := okIf Qq (okIf xp (okNone))
def Kx (p : List Nat × List Nat) (r : List Nat × List Nat) : Prop := r.1.length = p.1.length ∧ Ten.dig r.1 ∧ Ten.val r.1 = Ten.val p.1 / Ten.val p.2 ∧ r.2.length ≤ p.1.length ∧ Ten.dig r.2 ∧ Ten.val r.2 = Ten.val p.1 % Ten.val p.2
def W0 : Ctr := ctrP false (fun p : List Nat × List Nat => [nat6 p.1, nat6 p.2]) (fun p => Ten.dig p.1 ∧ Ten.dig p.2 ∧ p.1.length < 2 ^ 38 ∧ p.2.length < 2 ^ 38 ∧ 0 < Ten.val p.2) Kx (fun _ r => (.tup [nat6 r.1, nat6 r.2], []))
def SRd (l m : List Nat) (n : Nat) : KV := [(0, nat6 l), (1, nat6 m), (6, .int .i64 (n : Int)), (7, .undef), (8, .undef), (9, .undef), (15, .undef), (16, .undef), (17, .undef), (18, .undef), (19, .undef), (20, .undef)]
def qz (i : Nat) (qs : List Nat) : List Nat := List.replicate i 0 ++ qs
def SRo (l m qs r : List Nat) (i : Nat) : KV := [(0, nat6 l), (1, nat6 m), (6, .int .i64 (m.length : Int)), (7, .osl 0 1 0 l.length), (8, nat6 r), (9, .int .i64 ((i : Int) - 1)), (15, .undef), (16, .undef), (17, .undef), (18, .undef), (19, .undef), (20, .undef)]
theorem zb4 {k : IntKind} {x n : Nat} {r : List Nat} (hn : n ≤ 1 + r.length) : eqG n 1 (zj (appG 1 (zk 1 [.int k (x : Int)]) (natG k r)) 0) (natG k ((x :: r).take n)) := by
 intro j o hj ho
 have ho : o = 0 := by omega
 subst ho
 simp only [zj, appG, zk, natG, Nat.zero_add]
 rw [xB hj]
 by_cases h : j < 1
 ·have : j = 0 := by omega
  subst this; simp
 ·obtain ⟨i, rfl⟩ : ∃ i, j = i + 1 := ⟨j - 1, by omega⟩
  simp
def SRn (l m r : List Nat) (p : Nat) : KV := [(0, nat6 l), (1, nat6 m), (6, .int .i64 (m.length : Int)), (7, .osl 0 1 0 l.length), (8, nat6 r), (9, .int .i64 (p : Int)), (15, .undef), (16, .undef), (17, .undef), (18, .undef), (19, .undef), (20, .undef)]
theorem V6 {O : Nat → Prop} {w0 : World} {Hs : Nat → KV → Heap → Prop} {R : List AV → Heap → Prop} (l m qs r0 : List Nat) (p V : Nat) (hm : Ten.dig m) (hll : l.length < 2 ^ 38) (hml : m.length < 2 ^ 38) (hm0 : 0 < Ten.val m) (hp : p < l.length)
  (hql : qs.length + (p + 1) = l.length) (hV : V < 10 * Ten.val m) (hrd : Ten.dig r0) (hrl : r0.length ≤ m.length + 1) (hrv : Ten.val r0 = V)
  (hback : ∀ k r, k < 10 → Ten.dig r → r.length = r0.length → Ten.val r < Ten.val m → V = k * Ten.val m + Ten.val r → ∀ kv h, LeK 0 Tryz.f131.ntmps kv h (SRo l m (k :: qs) r p) [.arr l.length 1 (natG .i64 (qz p (k :: qs)))] → Hs 0 kv h)
  (kv : KV) (h : Heap) (hle : LeK 0 Tryz.f131.ntmps kv h (SRn l m r0 p) [.arr l.length 1 (natG .i64 (qz p (0 :: qs)))]) :
  zb Tryz.prog Tryz.f131 O 0 w0 [] Hs R (.code (.loop (lps (inside (inside K131 0) 0) 0).1) :: (lps (inside (inside K131 0) 0) 0).2) (mk Tryz.f131.ntmps kv h) := by
 refine zb.loop (ι := {z : Nat × List Nat // Ten.dig z.2 ∧ z.2.length = r0.length ∧ V = z.1 * Ten.val m + Ten.val z.2}) (fun z => SRn l m z.1.2 p) (fun z => [.arr l.length 1 (natG .i64 (qz p (z.1.1 :: qs)))]) (fun z => Ten.val z.1.2) ⟨(0, r0), hrd, rfl, by simp [hrv]⟩ 1 hle ?_ (by kernel_rfl)
 rintro ⟨⟨k, r⟩, hrd2, hrl2, hv⟩
 simp only at hrd2 hrl2 hv
 have hk : k < 10 := by
  refine Nat.lt_of_not_le fun h => ?_
  have : 10 * Ten.val m ≤ k * Ten.val m := Nat.mul_le_mul_right _ h
  omega
 have hqp : (qz p (k :: qs)).getD p 0 = k := by rw [qz, vR (by simp)]; simp
 have hset : (qz p (k :: qs)).set p (k + 1) = qz p ((k + 1) :: qs) := by
  simp [qz, List.set_append]
 have hqln : (qz p (k :: qs)).length = l.length := by simp [qz]; omega
 obtain ⟨q, hq⟩ : ∃ q, qz p (k :: qs) = q := ⟨_, rfl⟩
 simp only [hq] at hqp hset hqln ⊢
 refine zb.run hmix QR [0, 1, 6, 7, 8, 9, 15, 16, 17, 18, 19, 20] 400 (T := .ex (fun (x : List Nat × List Nat) => eqL [AV.sl r.length 1 (natG .i64 r), AV.sl m.length 1 (natG .i64 m)] [AV.sl x.1.length 1 (natG .i64 x.1), AV.sl x.2.length 1 (natG .i64 x.2)] ∧ Ten.dig x.1 ∧ Ten.dig x.2 ∧ x.1.length < 4611686018427387904 ∧ x.2.length < 4611686018427387904) fun n => .all (fun (r : Int) => r = cmpN (Ten.val n.1) (Ten.val n.2)) fun n => .ite (decide ((0 : Int) ≤ n)) (.ex (fun (x : List Nat × List Nat) => eqL [AV.sl r.length 1 (natG .i64 r), AV.sl m.length 1 (natG .i64 m)] [AV.sl x.1.length 1 (natG .i64 x.1), AV.sl x.2.length 1 (natG .i64 x.2)] ∧ Ten.dig x.1 ∧ Ten.dig x.2 ∧ x.1.length < 1099511627776 ∧ Ten.val x.2 ≤ Ten.val x.1) fun n => .all (fun (r : List Nat) => r.length = n.1.length ∧ Ten.dig r ∧ Ten.val r + Ten.val n.2 = Ten.val n.1) fun n => .side ((0 : Int) ≤ p ∧ (↑p : Int) < l.length) (.side (inR .i64 ((↑(List.getD q (0 + Int.toNat (↑p : Int)) 0) : Int) + (1 : Int))) (.side ((0 : Int) ≤ p ∧ (↑p : Int) < l.length) (.leaf (.back 1 [(0, .sl l.length 1 (natG .i64 l)), (1, .sl m.length 1 (natG .i64 m)), (6, .int .i64 m.length), (7, .osl 0 1 0 l.length), (8, .sl n.length 1 (natG .i64 n)), (9, .int .i64 p), (15, .undef), (16, .undef), (17, .undef), (18, .undef), (19, .undef), (20, .undef)] [.arr l.length 1 (updG (natG .i64 q) (0 + Int.toNat (↑p : Int)) 0 [.int .i64 ((↑(List.getD q (0 + Int.toNat (↑p : Int)) 0) : Int) + (1 : Int))])]))))) (.side (inR .i64 ((↑p : Int) - (1 : Int))) (.leaf (.back 0 [(0, .sl l.length 1 (natG .i64 l)), (1, .sl m.length 1 (natG .i64 m)), (6, .int .i64 m.length), (7, .osl 0 1 0 l.length), (8, .sl r.length 1 (natG .i64 r)), (9, .int .i64 ((↑p : Int) - (1 : Int))), (15, .undef), (16, .undef), (17, .undef), (18, .undef), (19, .undef), (20, .undef)] [.arr l.length 1 (natG .i64 q)])))) (by kernel_rfl) ?_
 simp only [Tree.holds, zd, inR, lo, hi, Int.toNat_natCast]
 refine ⟨(r, m), ⟨by simp [za], hrd2, hm, by simp only; omega, by simp only; omega⟩, ⟨_, rfl⟩, ?_⟩
 rintro _ rfl
 simp only [Nat.zero_add]
 refine ⟨fun hge => ?_, fun hlt => ?_⟩
 ·have hge : Ten.val m ≤ Ten.val r := ut.1 (of_decide_eq_true hge)
  refine ⟨(r, m), ⟨by simp [za], hrd2, hm, by simp only; omega, hge⟩, xA hrd2 hge, ?_⟩
  rintro r2 ⟨h1, h2, h3⟩
  simp only at h1 h3
  rw [hqp]
  refine ⟨by omega, fun _ => ⟨by omega, fun _ => ⟨by omega, fun _ => ?_⟩⟩⟩
  rw [if_pos trivial]
  refine ⟨⟨(k + 1, r2), h2, h1.trans hrl2, ?_⟩, by show Ten.val r2 < Ten.val r; omega, by simp [SRn, natS, za], ?_, by kernel_rfl, Nat.zero_le _⟩
  ·show V = (k + 1) * Ten.val m + Ten.val r2
   rw [Nat.add_mul, Nat.one_mul]; omega
  ·simp only [← hset]
   have h1 := jJ (k := .i64) (l := q) (v := ((k : Int) + 1)) (i := p) (by omega) (by omega)
   have e : ((k : Int) + 1).toNat = k + 1 := by omega
   rw [e, hqln] at h1
   exact ⟨⟨rfl, rfl, h1⟩, trivial⟩
 ·have hlt : Ten.val r < Ten.val m := by
   have := of_decide_eq_false hlt
   rw [ut] at this
   omega
  refine ⟨by omega, fun _ => ?_⟩
  rw [if_neg (by decide)]
  refine hback k r hk hrd2 hrl2 hlt hv _ _ ⟨by simp [SRo, natS, za], ?_, by kernel_rfl, Nat.zero_le _⟩
  rw [hq]
  simp [za]
structure IRo (l m : List Nat) where
 qs : List Nat
 r : List Nat
 i : Nat
 hi : i ≤ l.length
 hql : qs.length + i = l.length
 hqd : Ten.dig qs
 hrd : Ten.dig r
 hrl : r.length ≤ m.length + 1
 hrl2 : r.length + i ≤ l.length
 hlt : Ten.val r < Ten.val m
 hv : Ten.val (l.drop i) = Ten.val qs * Ten.val m + Ten.val r
theorem VN {O : Nat → Prop} {w0 : World} {Q : AV × Heap → Prop} {Hs : Nat → KV → Heap → Prop} (l m : List Nat) (hl : Ten.dig l) (hm : Ten.dig m) (hll : l.length < 2 ^ 38) (hml : m.length < 2 ^ 38) (hm0 : 0 < Ten.val m) (hmt : Ten.val m < 10 ^ m.length)
  (hq : ∀ r, Kx (l, m) r → Q (.tup [nat6 r.1, nat6 r.2], [])) (kv : KV) (h : Heap) (hle : LeK 0 Tryz.f131.ntmps kv h (SRo l m [] [] l.length) [.arr l.length 1 (natG .i64 (qz l.length []))]) :
  zb Tryz.prog Tryz.f131 O 0 w0 [] Hs (RetR W0 0 Q) (.code (.loop (lps (inside K131 0) 0).1) :: (lps (inside K131 0) 0).2) (mk Tryz.f131.ntmps kv h) := by
 refine zb.loop (ι := IRo l m) (fun z => SRo l m z.qs z.r z.i) (fun z => [.arr l.length 1 (natG .i64 (qz z.i z.qs))]) (fun z => z.i) ⟨[], [], l.length, Nat.le_refl _, by simp, by simp [Ten.dig], by simp [Ten.dig], by simp, by simp, by simpa [Ten.val] using hm0, by simp [Ten.val]⟩ 0 hle ?_ (by kernel_rfl)
 rintro ⟨qs, r, i, hil, hql, hqd, hrd, hrl, hrl2, hrv, hv⟩
 obtain ⟨q, hqz⟩ : ∃ q, qz i qs = q := ⟨_, rfl⟩
 simp only [hqz]
 refine zb.run hmix QR [0, 1, 6, 7, 8, 9, 15, 16, 17, 18, 19, 20] 400 (T := .ite (decide ((0 : Int) ≤ i - (1 : Int))) (.side ((0 : Int) ≤ i - (1 : Int) ∧ (↑i : Int) - (1 : Int) < l.length) (.side (0 = 0 ∧ 1 ≤ 1 ∧ (1 + r.length) * 8 ≤ 140737488355328) (.side (inR .i64 ((↑m.length : Int) + (1 : Int))) (.ite (decide ((↑m.length : Int) + (1 : Int) < (↑(1 + r.length) : Int))) (.side (inR .i64 ((↑m.length : Int) + (1 : Int))) (.side ((0 : Int) ≤ m.length + (1 : Int) ∧ (↑m.length : Int) + (1 : Int) ≤ (↑(1 + r.length) : Int)) (.leaf (.loop (Prod.fst (lps (inside (inside K131 0) 0) 0)) (Prod.snd (lps (inside (inside K131 0) 0) 0)) [(0, .sl l.length 1 (natG .i64 l)), (1, .sl m.length 1 (natG .i64 m)), (6, .int .i64 m.length), (7, .osl 0 1 0 l.length), (8, .osl 1 1 0 (Int.toNat ((↑m.length : Int) + (1 : Int)) - 0)), (9, .int .i64 ((↑i : Int) - (1 : Int))), (15, .undef), (16, .undef), (17, .undef), (18, .undef), (19, .undef), (20, .undef)] [.arr l.length 1 (natG .i64 q), .arr (1 + r.length) 1 (appG 1 (zk 1 [.int .i64 (↑(List.getD l (Int.toNat ((↑i : Int) - (1 : Int))) 0) : Int)]) (natG .i64 r))])))) (.leaf (.loop (Prod.fst (lps (inside (inside K131 0) 0) 0)) (Prod.snd (lps (inside (inside K131 0) 0) 0)) [(0, .sl l.length 1 (natG .i64 l)), (1, .sl m.length 1 (natG .i64 m)), (6, .int .i64 m.length), (7, .osl 0 1 0 l.length), (8, .osl 1 1 0 (1 + r.length)), (9, .int .i64 ((↑i : Int) - (1 : Int))), (15, .undef), (16, .undef), (17, .undef), (18, .undef), (19, .undef), (20, .undef)] [.arr l.length 1 (natG .i64 q), .arr (1 + r.length) 1 (appG 1 (zk 1 [.int .i64 (↑(List.getD l (Int.toNat ((↑i : Int) - (1 : Int))) 0) : Int)]) (natG .i64 r))])))))) (.leaf (.ret [.osl 0 1 0 l.length, .sl r.length 1 (natG .i64 r)] [.arr l.length 1 (natG .i64 q)]))) (by kernel_rfl) ?_
 simp only [Tree.holds, zd, inR, lo, hi, Int.toNat_natCast]
 refine ⟨fun hge => ?_, fun hlt => ?_⟩
 ·obtain ⟨p, rfl⟩ : ∃ p, i = p + 1 := ⟨i - 1, by have := of_decide_eq_true hge; omega⟩
  have e : (((p + 1 : Nat) : Int) - 1).toNat = p := by omega
  have e2 : ((p + 1 : Nat) : Int) - 1 = (p : Int) := by omega
  have e3 : ((m.length : Int) + 1).toNat - 0 = m.length + 1 := by omega
  have hx : l.getD p 0 < 10 := Ten.zz hl p
  have hdrop : l.drop p = l.getD p 0 :: l.drop (p + 1) := by
   have h1 : p < l.length := by omega
   rw [List.drop_eq_getElem_cons h1]
   simp [List.getD, h1]
  simp only [e2, e3, Int.toNat_natCast]
  obtain ⟨x, hxe⟩ : ∃ x, l.getD p 0 = x := ⟨_, rfl⟩
  simp only [hxe] at hx hdrop ⊢
  have hVv : Ten.val (x :: r) = x + 10 * Ten.val r := rfl
  have hV : Ten.val (x :: r) < 10 * Ten.val m := by rw [hVv]; omega
  have hpow : 10 ^ (m.length + 1) = 10 ^ m.length * 10 := Nat.pow_succ ..
  have hcut : Ten.val ((x :: r).take (m.length + 1)) = Ten.val (x :: r) := Us (by rw [hpow]; omega)
  have hdig : Ten.dig ((x :: r).take (m.length + 1)) := Ten.qC (Ten.qb.2 ⟨hx, hrd⟩) _
  have main : ∀ n, n = ((x :: r).take (m.length + 1)).length → zb Tryz.prog Tryz.f131 O 0 w0 [] (fun d kv h => if d = 0 then ∃ x' : IRo l m, x'.i < p + 1 ∧ LeK 0 Tryz.f131.ntmps kv h (SRo l m x'.qs x'.r x'.i) [.arr l.length 1 (natG .i64 (qz x'.i x'.qs))] else Hs d kv h) (RetR W0 0 Q)
    (.code (.loop (lps (inside (inside K131 0) 0) 0).1) :: (lps (inside (inside K131 0) 0) 0).2)
    (mk Tryz.f131.ntmps [(0, nat6 l), (1, nat6 m), (6, .int .i64 (m.length : Int)), (7, .osl 0 1 0 l.length), (8, .osl 1 1 0 n), (9, .int .i64 (p : Int)), (15, .undef), (16, .undef), (17, .undef), (18, .undef), (19, .undef), (20, .undef)]
     [.arr l.length 1 (natG .i64 q), .arr (1 + r.length) 1 (appG 1 (zk 1 [.int .i64 (x : Int)]) (natG .i64 r))]) := by
   intro n hn
   refine zb.freeze [1] (by simp) (by kernel_rfl) ?_
   refine V6 l m qs ((x :: r).take (m.length + 1)) p (Ten.val (x :: r)) hm hll hml hm0 (by omega) (by omega) hV hdig (by simp; omega) hcut ?_ _ _ ⟨?_, ?_, by kernel_rfl, Nat.zero_le _⟩
   ·intro k r' hk hd' hl' hlt' hv' kv h hle'
    rw [if_pos rfl]
    rw [List.length_take, List.length_cons] at hl'
    refine ⟨⟨k :: qs, r', p, by omega, by simp; omega, Ten.qb.2 ⟨hk, hqd⟩, hd', by omega, by omega, hlt', ?_⟩, Nat.lt_succ_self p, hle'⟩
    rw [hdrop]
    show x + 10 * Ten.val (l.drop (p + 1)) = (k + 10 * Ten.val qs) * Ten.val m + Ten.val r'
    rw [hv, Nat.add_mul, Nat.mul_assoc]
    rw [hVv] at hv'
    omega
   ·have : J7 [1] ([.arr l.length 1 (natG .i64 q), .arr (1 + r.length) 1 (appG 1 (zk 1 [.int .i64 (x : Int)]) (natG .i64 r))]) [(0, nat6 l), (1, nat6 m), (6, .int .i64 (m.length : Int)), (7, .osl 0 1 0 l.length), (8, .osl 1 1 0 n), (9, .int .i64 (p : Int)), (15, .undef), (16, .undef), (17, .undef), (18, .undef), (19, .undef), (20, .undef)] = [(0, nat6 l), (1, nat6 m), (6, .int .i64 (m.length : Int)), (7, .osl 0 1 0 l.length), (8, .sl n 1 (zj (appG 1 (zk 1 [.int .i64 (x : Int)]) (natG .i64 r)) 0)), (9, .int .i64 (p : Int)), (15, .undef), (16, .undef), (17, .undef), (18, .undef), (19, .undef), (20, .undef)] := rfl
    rw [this]
    have hg := zb4 (k := .i64) (x := x) (r := r) (n := n) (by rw [hn]; simp; omega)
    have h2 : (x :: r).take n = (x :: r).take (m.length + 1) := by rw [hn, List.length_take, ← List.take_take, List.take_length]
    rw [h2] at hg
    subst hn
    refine ⟨rfl, by simp [natS, za], rfl, by simp [natS, za], rfl, by simp, rfl, by simp, rfl, ?_, rfl, by simp, by simp⟩
    exact ⟨rfl, rfl, hg⟩
   ·have : wW [1] (zD [1] [.arr l.length 1 (natG .i64 q), .arr (1 + r.length) 1 (appG 1 (zk 1 [.int .i64 (x : Int)]) (natG .i64 r))]) = [.arr l.length 1 (natG .i64 q), .dead] := rfl
    rw [this]
    have hqq : q = qz p (0 :: qs) := by rw [← hqz]; simp [qz, List.replicate_succ']
    rw [← hqq]
    simp [za]
  refine ⟨by omega, fun _ => ⟨⟨trivial, Nat.le_refl _, by omega⟩, fun _ => ⟨by omega, fun _ => ⟨fun hbig => ?_, fun hsm => ?_⟩⟩⟩⟩
  ·have hbig := of_decide_eq_true hbig
   refine ⟨by omega, fun _ => ⟨by omega, fun _ => main _ ?_⟩⟩
   rw [List.length_take, List.length_cons]; omega
  ·have hsm := of_decide_eq_false hsm
   refine main _ ?_
   rw [List.length_take, List.length_cons]; omega
 ·have hi0 : i = 0 := by have := of_decide_eq_false hlt; omega
  subst hi0
  rw [← hqz]
  have hqq : qz 0 qs = qs := by simp [qz]
  rw [hqq]
  have hql2 : l.length = qs.length := by omega
  rw [List.drop_zero] at hv
  have hb : ([.arr l.length 1 (natG .i64 qs)] : Heap)[0]? = some (.arr l.length 1 (natG .i64 qs)) := rfl
  have hd : Ten.val l / Ten.val m = Ten.val qs ∧ Ten.val l % Ten.val m = Ten.val r := by
   rw [hv, Nat.mul_comm, Nat.mul_add_div hm0, Nat.mul_add_mod, Nat.div_eq_of_lt hrv, Nat.mod_eq_of_lt hrv]
   exact ⟨by omega, rfl⟩
  refine RetR.out0 (hq (qs, r) ⟨by simp only; omega, hqd, by simp only [hd.1], by simp only; omega, hrd, by simp only [hd.2]⟩) (fun h => by cases h) ?_
  simp only [resV, exp2, List.map_cons, List.map_nil, exp1]
  rw [ke hb (by omega), Xl]
  simp [eqA2, eqL1, eqA, eqA0, natS, za, exp0, ren0, hql2]
theorem Kr : zc Tryz.prog 131 W0 := by
 refine ze (fn := Tryz.f131) (c := Tryz.f131.body.getD .skip) rfl rfl rfl fun p hp O w0 Q hq => ?_
 obtain ⟨l, m⟩ := p
 obtain ⟨hl, hm, hll, hml, hm0⟩ := hp
 simp only at hq hl hm hll hml hm0
 refine zb.run hmix QR [0, 1, 6, 7, 8, 9, 15, 16, 17, 18, 19, 20] 400 (T := .leaf (.loop (Prod.fst (lps K131 0)) (Prod.snd (lps K131 0)) [(0, .sl l.length 1 (natG .i64 l)), (1, .sl m.length 1 (natG .i64 m)), (6, .int .i64 m.length), (7, .undef), (8, .undef), (9, .undef), (15, .undef), (16, .undef), (17, .undef), (18, .undef), (19, .undef), (20, .undef)] [])) (by kernel_rfl) ?_
 simp only [Tree.holds, zd]
 refine zb.loop (ι := {n : Nat // n ≤ m.length ∧ Ten.tlen m ≤ n}) (fun n => SRd l m n.1) (fun _ => []) (fun n => n.1) ⟨m.length, Nat.le_refl _, Ten.zJ m⟩ 0 ?_ ?_ (by kernel_rfl)
 ·exact ⟨by simp [SRd, natS, za], by simp, by kernel_rfl, Nat.zero_le _⟩
 ·rintro ⟨n, hn, ht⟩
  refine zb.run hmix QR [0, 1, 6, 7, 8, 9, 15, 16, 17, 18, 19, 20] 400 (T := .side (decide ((1 : Int) < n) = true → inR .i64 ((↑n : Int) - (1 : Int))) (.side (decide ((1 : Int) < n) = true → (0 : Int) ≤ n - (1 : Int) ∧ (↑n : Int) - (1 : Int) < m.length) (.ite (bif decide ((1 : Int) < n) then decide ((↑(List.getD m (Int.toNat ((↑n : Int) - (1 : Int))) 0) : Int) = 0) else false) (.side (inR .i64 ((↑n : Int) - (1 : Int))) (.leaf (.back 0 [(0, .sl l.length 1 (natG .i64 l)), (1, .sl m.length 1 (natG .i64 m)), (6, .int .i64 ((↑n : Int) - (1 : Int))), (7, .undef), (8, .undef), (9, .undef), (15, .undef), (16, .undef), (17, .undef), (18, .undef), (19, .undef), (20, .undef)] []))) (.side ((0 : Int) ≤ n ∧ (↑n : Int) ≤ m.length) (.side ((0 : Int) ≤ l.length ∧ (↑l.length : Int) ≤ l.length ∧ inR .i64 (↑l.length : Int) ∧ Int.toNat (↑l.length : Int) * 8 ≤ 140737488355328) (.side (inR .i64 ((↑l.length : Int) - (1 : Int))) (.leaf (.loop (Prod.fst (lps (inside K131 0) 0)) (Prod.snd (lps (inside K131 0) 0)) [(0, .sl l.length 1 (natG .i64 l)), (1, .sl (Int.toNat (↑n : Int) - 0) 1 (zj (natG .i64 m) 0)), (6, .int .i64 n), (7, .osl 0 1 0 (Int.toNat (↑l.length : Int))), (8, .nils), (9, .int .i64 ((↑l.length : Int) - (1 : Int))), (15, .undef), (16, .undef), (17, .undef), (18, .undef), (19, .undef), (20, .undef)] [.arr (Int.toNat (↑l.length : Int)) 1 (wU [.int .i64 0])])))))))) (by kernel_rfl) ?_
  simp only [Tree.holds, zd, inR, lo, hi, Int.toNat_natCast]
  refine ⟨by omega, fun _ => ⟨fun h => by have := of_decide_eq_true h; omega, fun _ => ⟨fun hz => ?_, fun hz => ?_⟩⟩⟩
  ·have hn1 : 1 < n := by
    rcases Nat.lt_or_ge 1 n with h | h
    ·exact h
    ·rw [decide_eq_false (by omega)] at hz; cases hz
   have e : ((n : Int) - 1).toNat = n - 1 := by omega
   have hz : m.getD (n - 1) 0 = 0 := by
    rw [decide_eq_true (by omega), e] at hz
    have := of_decide_eq_true hz
    omega
   refine ⟨by omega, fun _ => ?_⟩
   rw [if_pos trivial]
   refine ⟨⟨n - 1, by omega, ?_⟩, by show n - 1 < n; omega, by simp [SRd, natS, za]; omega, by simp, by kernel_rfl, Nat.zero_le _⟩
   refine Nat.le_of_not_lt fun hlt => ?_
   have hnt : n = Ten.tlen m := by omega
   subst hnt
   exact Ten.zX m (by omega) hz
  ·refine ⟨by omega, fun _ => ⟨by omega, fun _ => ⟨by omega, fun _ => ?_⟩⟩⟩
   have hlen : (m.take n).length = n := by rw [List.length_take]; omega
   have hd : Ten.dig (m.take n) := Ten.qC hm n
   have hval : Ten.val (m.take n) = Ten.val m := by
    refine Ze hd hm fun j => ?_
    rcases Nat.lt_or_ge j n with h | h
    ·exact xB h
    ·rw [jT (by omega), Ten.qH m j (by omega)]
   refine VN l (m.take n) hl hd hll (by omega) (by omega) (Ten.z8 hd) ?_ _ _ ⟨?_, ?_, by kernel_rfl, Nat.zero_le _⟩
   ·intro r hr
    refine hq r ?_
    simp only [Kx, hval] at hr ⊢
    exact hr
   ·refine ⟨rfl, by simp [natS, za], rfl, ?_, by simp [hlen, natS]⟩
    refine ⟨by rw [hlen]; rfl, rfl, ?_⟩
    intro j o hj ho
    have ho : o = 0 := by omega
    subst ho
    simp only [zj, natG, Nat.zero_add]
    rw [xB (by omega)]
   ·refine ⟨⟨rfl, rfl, ?_⟩, trivial⟩
    intro j o hj ho
    have ho : o = 0 := by omega
    subst ho
    simp only [wU, natG, qz, List.append_nil]
    rw [ZJ hj]; rfl
end Go.Proofs.Tryz
end

/- The reference's integers: the greatest common divisor. -/
section
set_option maxRecDepth 100000
open Go Go.Sx Go.Proofs Go.Nov
namespace Go.Proofs.Tryz
attribute [local simp] eqKV eqA eqA0 eqH eqB eqL eqL0
noncomputable def K114 : List Go.Sx.Item := [.code (Tryz.f114.body.getD .skip)]
def big : Nat := 1000
theorem KF {s : List UInt8} (h : errI s = 0) : numI s < 10 ^ big := by
 obtain ⟨_, h1, _, h2⟩ := ku h
 exact Nat.lt_of_lt_of_le (kR h1) (Nat.pow_le_pow_right (by decide) h2)
theorem zfo {x y : Nat} (hx : x < 10 ^ big) (hy : y < 10 ^ big) : wr false (Nat.gcd x y) = (q5 false (Nat.gcd x y), 0) := by
 have h : Nat.gcd x y < 10 ^ big := by
  rcases Nat.eq_zero_or_pos x with h | h
  ·subst h; rw [Nat.gcd_zero_left]; exact hy
  ·exact Nat.lt_of_le_of_lt (Nat.le_of_dvd h (Nat.gcd_dvd_left x y)) hx
 have h2 := vK h
 have hb : big = 1000 := rfl
 unfold wr q5
 split
 ·rfl
 ·rw [if_neg (by omega)]
theorem j2 {s : List UInt8} (h : errI s = 0) : digR s = (dg (parse s).2, (parse s).1, true) ∧ Ten.dig (dg (parse s).2) ∧ (dg (parse s).2).length ≤ 1000 ∧ Ten.val (dg (parse s).2) = numI s := by
 obtain ⟨neg, b, h1, h2, h3, h4, h5, h6⟩ := un h
 refine ⟨?_, ?_, ?_, QL _⟩
 ·simp only [digR, h2, h3, if_true]
 ·simp only [h2]; exact zbh h4
 ·simp only [h2, vE]; exact h6
def zbg : Ctr := ctrP true (fun p : List UInt8 × List UInt8 => [.str p.1, .str p.2]) (fun p => p.1.length < 2 ^ 40 ∧ p.2.length < 2 ^ 40) (fun p r => r = gcdR p.1 p.2) (fun _ r => (.tup [.str r.1, .int .i64 r.2], []))
def SRg (x y : List Nat) : KV := [(7, nat6 x), (10, nat6 y)]
def GR5 : Nat → Option Ctr := fun f => if f = 115 then some (KU) else if f = 112 then some (wX) else if f = 131 then some (W0) else if f = 130 then some (U2) else if f = 132 then some (yK) else none
theorem Y8 : ∀ g c, GR5 g = some c → zc Tryz.prog g c := okIf Jo (okIf vq (okIf Kr (okIf KE (okIf ya (okNone)))))
theorem KA : zc Tryz.prog 114 zbg := by
 refine ze (fn := Tryz.f114) (c := Tryz.f114.body.getD .skip) rfl rfl rfl fun p hp O w0 Q hq => ?_
 obtain ⟨s, t⟩ := p
 obtain ⟨hs, ht⟩ := hp
 replace hq := hq _ rfl
 simp only at hs ht hq
 refine zb.run hmix Y8 [7, 10] 400 (T := .ex (fun (x : List UInt8 × List UInt8) => eqL [AV.str s, AV.str t] [AV.str x.1, AV.str x.2] ∧ x.1.length < 1099511627776 ∧ x.2.length < 1099511627776) fun n => .all (fun (r : Int) => r = zl n.1 n.2) fun n => .ite (!decide (n = 0)) (.leaf (.ret [.str (Array.toList #[]), .int .i64 n] [])) (.ex (fun (x : List UInt8) => eqL [AV.str s] [AV.str x] ∧ x.length < 1099511627776) fun n => .all (fun (r : List Nat × Bool × Bool) => r = digR n) fun n => .ex (fun (x : List UInt8) => eqL [AV.str t] [AV.str x] ∧ x.length < 1099511627776) fun n_1 => .all (fun (r : List Nat × Bool × Bool) => r = digR n_1) fun n_2 => .leaf (.loop (Prod.fst (lps K114 0)) (Prod.snd (lps K114 0)) [(7, .sl n.1.length 1 (natG .i64 n.1)), (10, .sl n_2.1.length 1 (natG .i64 n_2.1))] []))) (by kernel_rfl) ?_
 simp only [Tree.holds, zd]
 refine ⟨(s, t), ⟨by simp, hs, ht⟩, ⟨_, rfl⟩, ?_⟩
 rintro _ rfl
 simp only
 refine ⟨fun he => ?_, fun he => ?_⟩
 ·have he : zl s t ≠ 0 := by
   intro h; simp [h] at he
  have e : gcdR s t = ([], zl s t) := by simp [gcdR, he]
  rw [e] at hq
  exact RetR.scal hq rfl (by simp [resV])
 ·have he : zl s t = 0 := by
   refine Decidable.byContradiction fun h => ?_
   simp [h] at he
  obtain ⟨h1, h2⟩ := zf.1 he
  have e : gcdR s t = (q5 false (Nat.gcd (numI s) (numI t)), 0) := by
   rw [gcdR, if_pos he]; exact zfo (KF h1) (KF h2)
  rw [e] at hq
  refine ⟨s, ⟨by simp, hs⟩, ⟨_, rfl⟩, ?_⟩
  rintro _ rfl
  refine ⟨t, ⟨by simp, ht⟩, ⟨_, rfl⟩, ?_⟩
  rintro _ rfl
  obtain ⟨a1, a2, a3, a4⟩ := j2 h1
  obtain ⟨b1, b2, b3, b4⟩ := j2 h2
  rw [a1, b1]
  simp only
  rw [← a4, ← b4] at hq
  generalize dg (parse s).2 = x0 at *
  generalize dg (parse t).2 = y0 at *
  clear a1 b1 e he h1 h2 hs ht a4 b4
  refine zb.loop (ι := {z : List Nat × List Nat // Nat.gcd (Ten.val z.1) (Ten.val z.2) = Nat.gcd (Ten.val x0) (Ten.val y0) ∧ Ten.dig z.1 ∧ Ten.dig z.2 ∧ z.1.length ≤ 1000 ∧ z.2.length ≤ 1000}) (fun z => SRg z.1.1 z.1.2) (fun _ => []) (fun z => Ten.val z.1.2) ⟨(x0, y0), rfl, a2, b2, a3, b3⟩ 0 ?_ ?_ (by kernel_rfl)
  ·exact ⟨by simp [SRg, natS, za], by simp, by kernel_rfl, Nat.zero_le _⟩
  ·rintro ⟨⟨x, y⟩, hg, hx, hy, hxl, hyl⟩
   simp only at hg hx hy hxl hyl
   refine zb.run hmix Y8 [7, 10] 400 (T := .ex (fun (x : List Nat) => eqL [AV.sl y.length 1 (natG .i64 y)] [AV.sl x.length 1 (natG .i64 x)] ∧ Ten.dig x ∧ x.length < 4611686018427387904) fun n => .all (fun (r : Bool) => r = decide (Ten.val n = 0)) fun n => .ite (!n) (.ex (fun (x_1 : List Nat × List Nat) => eqL [AV.sl x.length 1 (natG .i64 x), AV.sl y.length 1 (natG .i64 y)] [AV.sl x_1.1.length 1 (natG .i64 x_1.1), AV.sl x_1.2.length 1 (natG .i64 x_1.2)] ∧ Ten.dig x_1.1 ∧ Ten.dig x_1.2 ∧ x_1.1.length < 274877906944 ∧ x_1.2.length < 274877906944 ∧ 0 < Ten.val x_1.2) fun n => .all (fun (r : List Nat × List Nat) => r.1.length = n.1.length ∧ Ten.dig r.1 ∧ Ten.val r.1 = Ten.val n.1 / Ten.val n.2 ∧ r.2.length ≤ n.1.length ∧ Ten.dig r.2 ∧ Ten.val r.2 = Ten.val n.1 % Ten.val n.2) fun n => .leaf (.back 0 [(7, .sl y.length 1 (natG .i64 y)), (10, .sl n.2.length 1 (natG .i64 n.2))] [])) (.ex (fun (x_1 : List Nat × Bool) => eqL [AV.sl x.length 1 (natG .i64 x), AV.bool false] [AV.sl x_1.1.length 1 (natG .i64 x_1.1), AV.bool x_1.2] ∧ Ten.dig x_1.1 ∧ x_1.1.length < 1099511627776) fun n => .all (fun (r : List UInt8) => r = q5 n.2 (Ten.val n.1)) fun n => .leaf (.ret [.str n, .int .i64 0] []))) (by kernel_rfl) ?_
   simp only [Tree.holds, zd, inR, lo, hi]
   refine ⟨y, ⟨by simp [za], hy, by omega⟩, ⟨_, rfl⟩, ?_⟩
   rintro _ rfl
   refine ⟨fun h0 => ?_, fun h0 => ?_⟩
   ·have hy0 : 0 < Ten.val y := by
     rcases Nat.eq_zero_or_pos (Ten.val y) with h | h
     ·rw [h] at h0; simp at h0
     ·exact h
    refine ⟨(x, y), ⟨by simp [za], hx, hy, by simp only; omega, by simp only; omega, hy0⟩, ?_, ?_⟩
    ·obtain ⟨g1, g2, g3⟩ := uq hx (Nat.div_le_self (Ten.val x) (Ten.val y))
     obtain ⟨g4, g5, g6⟩ := uq hx (Nat.mod_le (Ten.val x) (Ten.val y))
     exact ⟨(_, _), g1, g2, g3, Nat.le_of_eq g4, g5, g6⟩
    rintro ⟨q, r⟩ ⟨g1, g2, g3, g4, g5, g6⟩
    simp only at g1 g2 g3 g4 g5 g6
    simp only
    rw [if_pos trivial]
    refine ⟨⟨(y, r), ?_, hy, g5, hyl, Nat.le_trans g4 hxl⟩, ?_, by simp [SRg, natS, za], by simp, by kernel_rfl, Nat.zero_le _⟩
    ·show Nat.gcd (Ten.val y) (Ten.val r) = _
     rw [g6, ← hg, Nat.gcd_comm (Ten.val x), Nat.gcd_rec (Ten.val y) (Ten.val x), Nat.gcd_comm]
    ·show Ten.val r < Ten.val y
     rw [g6]; exact Nat.mod_lt _ hy0
   ·have hy0 : Ten.val y = 0 := by
     refine Decidable.byContradiction fun h => ?_
     rw [decide_eq_false h] at h0; simp at h0
    refine ⟨(x, false), ⟨by simp [za], hx, by simp only; omega⟩, ⟨_, rfl⟩, ?_⟩
    rintro _ rfl
    rw [hy0, Nat.gcd_zero_right] at hg
    rw [← hg] at hq
    exact RetR.scal hq rfl (by simp [resV])
end Go.Proofs.Tryz
end

/- The library's search for a byte, and what it means for the contracts. -/
section
namespace Go.Proofs
set_option maxHeartbeats 1000000 in
set_option maxRecDepth 100000 in
theorem Tryz.JS (s : ByteArray) (c : Int) (w : World) :
  Calls Tryz.prog 144 #[.string s, .int .u8 c] w fun e w' => e = .returned (.int .i64 (Lib.indexByte s.data.toList c.toNat.toUInt8)) ∧ w' = w := by
 go_enter Tryz.func144, Tryz.ntmps144
 go_wp2
 rw [run_callFunc_extern Tryz.func148 (by kernel_rfl) (by kernel_rfl) (by kernel_rfl) (e := Extern.BytealgIndexByte.indexByte) (by kernel_rfl), Lib.run_indexByteString]
 simp only [Result.andThen]
 rw [Oper.upon_value]
 go_wp2
 go_ret
 exact ⟨rfl, rfl⟩
set_option maxHeartbeats 2000000 in
set_option maxRecDepth 100000 in
theorem Tryz.Vo (s : ByteArray) (c : UInt8) (w : World) :
  Calls Tryz.prog 142 #[.string s, .string ⟨#[c]⟩] w fun e w' => e = .returned (.int .i64 (Lib.indexByte s.data.toList c)) ∧ w' = w := by
 go_enter Tryz.func142, Tryz.ntmps142
 go_wp2_with (go_at_call 144; refine (Tryz.JS _ _ _).mono ?_; rintro e w' ⟨rfl, rfl⟩)
 ·have h : ([c] == s.toList) = true := by assumption
  go_ret
  refine ⟨?_, rfl⟩
  have e : s.data.toList = [c] := by rw [← Lib.toList_data]; exact (beq_iff_eq.1 h).symm
  rw [e]
  simp [Lib.indexByte]
 ·go_ret
  exact ⟨rfl, rfl⟩
end Go.Proofs
end

/- Rationals: splitting and checking. -/
section
set_option maxRecDepth 100000
open Go Go.Sx Go.Proofs Go.Nov
namespace Go.Proofs.Tryz
attribute [local simp] eqKV eqA eqA0 eqH eqB eqL eqL0
noncomputable def K137 : List Go.Sx.Item := [.code (Tryz.f137.body.getD .skip)]
noncomputable def K122 : List Go.Sx.Item := [.code (Tryz.f122.body.getD .skip)]
noncomputable def K92 : List Go.Sx.Item := [.code (Tryz.f92.body.getD .skip)]
noncomputable def K93 : List Go.Sx.Item := [.code (Tryz.f93.body.getD .skip)]
noncomputable def K55 : List Go.Sx.Item := [.code (Tryz.f55.body.getD .skip)]
noncomputable def K113 : List Go.Sx.Item := [.code (Tryz.f113.body.getD .skip)]
noncomputable def K111 : List Go.Sx.Item := [.code (Tryz.f111.body.getD .skip)]
noncomputable def K78 : List Go.Sx.Item := [.code (Tryz.f78.body.getD .skip)]
theorem uj (s : List UInt8) : Lib.indexByte s 47 = if zw s < s.length then (zw s : Int) else -1 := by
 induction s with
 | nil => rfl
 | cons c s ih =>
  simp only [Lib.indexByte, zw, List.findIdx_cons]
  cases h : (c == 47) with
  | true => simp
  | false =>
   simp only [Bool.false_eq_true, if_false, ih, cond_false, List.length_cons]
   show _ = if zw s + 1 < s.length + 1 then ((zw s + 1 : Nat) : Int) else -1
   by_cases h2 : zw s < s.length
   ·rw [if_pos h2, if_neg (by simp), if_pos (by omega)]; omega
   ·rw [if_neg h2, if_pos (by rfl), if_neg (by omega)]
def WY : Ctr := ctrP true (fun s : List UInt8 => [.str s, .str [47]]) (fun s => True) (fun s r => r = if zw s < s.length then (zw s : Int) else -1) (fun _ (r : Int) => (.int .i64 r, []))
theorem zb2 : zc Tryz.prog 142 WY := by
 intro args hc Q hq _
 simp only [WY, ctrP] at hq
 split at hq
 ·obtain ⟨s, ⟨h1, _⟩, _, h3⟩ := hq
  have hq := h3 _ rfl
  simp only [Tree.holds] at hq
  refine wH.le h1 ?_
  intro O w σ vals hg hh hr
  simp only [RepL, Rep] at hr
  obtain ⟨v1, r1, rfl, rfl, v2, r2, rfl, rfl, rfl⟩ := hr
  refine .inl ⟨enters_of Tryz.func142 (by kernel_rfl) rfl .., ?_⟩
  refine (Tryz.Vo ⟨s.toArray⟩ 47 w).mono ?_
  rintro e w' ⟨rfl, rfl⟩
  have hx := uj s
  have h0 : σ = [] := List.length_eq_zero_iff.1 hh.len
  subst h0
  refine ⟨_, rfl, _, [], [], hq, ?_, ⟨rfl, fun i j e f a b h => by simp at h, fun i e a h => by simp at h, fun i e b h => by simp at h⟩, hg, Nat.le_refl _, Hold.refl _ _ _, Ext.refl _ _⟩
  simp only [Rep]
  rw [← hx]
 ·exact hq.elim
def cutC : Ctr := ctrP true (fun s : List UInt8 => [.str s, .str [47]]) (fun s => s.length < 2 ^ 62) (fun s r => r = cutR s) (fun _ r => (.tup [.str r.1, .str r.2.1, .bool r.2.2], []))
def GC1 : Nat → Option Ctr := fun f => if f = 142 then some (WY) else none
theorem zfy : ∀ g c, GC1 g = some c → zc Tryz.prog g c := okIf zb2 (okNone)
theorem zcv : zc Tryz.prog 137 cutC := by
 refine ze (fn := Tryz.f137) (c := Tryz.f137.body.getD .skip) rfl rfl rfl fun s hs O w0 Q hq => ?_
 replace hq := hq _ rfl
 refine zb.run hmix zfy [] 400 (T := .ex (fun (x : List UInt8) => eqL [AV.str s, AV.str [(47 : UInt8)]] [AV.str x, AV.str [(47 : UInt8)]] ∧ True) fun n => .all (fun (r : Int) => r = if zw n < n.length then (↑(zw n) : Int) else (-1 : Int)) fun n => .ite (decide ((0 : Int) ≤ n)) (.side ((0 : Int) ≤ n ∧ n ≤ (↑s.length : Int)) (.side (inR .i64 (n + (1 : Int))) (.side ((0 : Int) ≤ n + (1 : Int) ∧ n + (1 : Int) ≤ s.length) (.leaf (.ret [.str (List.drop 0 (List.take (Int.toNat n) s)), .str (List.drop (Int.toNat (n + (1 : Int))) (List.take s.length s)), .bool true] []))))) (.leaf (.ret [.str s, .str (Array.toList #[]), .bool false] []))) (by kernel_rfl) ?_
 simp only [Tree.holds, zd, inR, lo, hi]
 refine ⟨s, ⟨by simp, trivial⟩, ⟨_, rfl⟩, ?_⟩
 rintro _ rfl
 by_cases h : zw s < s.length
 ·simp only [if_pos h]
  rw [u4 h] at hq
  refine ⟨fun _ => ⟨by omega, fun _ => ⟨by omega, fun _ => ⟨by omega, fun _ => ?_⟩⟩⟩, fun hn => ?_⟩
  ·refine RetR.scal hq rfl ?_
   simp [resV]
  ·have := of_decide_eq_false hn; omega
 ·simp only [if_neg h]
  rw [QZ h] at hq
  refine ⟨fun hn => ?_, fun _ => RetR.scal hq rfl (by simp [resV])⟩
  have := of_decide_eq_true hn; omega
def GC2 : Nat → Option Ctr := fun f => if f = 137 then some (cutC) else none
theorem zff : ∀ g c, GC2 g = some c → zc Tryz.prog g c := okIf zcv (okNone)
theorem zfv : zc Tryz.prog 122 cutC := by
 refine ze (fn := Tryz.f122) (c := Tryz.f122.body.getD .skip) rfl rfl rfl fun s hs O w0 Q hq => ?_
 replace hq := hq _ rfl
 refine zb.run hmix zff [] 400 (T := .ex (fun (x : List UInt8) => eqL [AV.str s, AV.str [(47 : UInt8)]] [AV.str x, AV.str [(47 : UInt8)]] ∧ x.length < 4611686018427387904) fun n => .all (fun (r : List UInt8 × List UInt8 × Bool) => r = cutR n) fun n => .leaf (.ret [.str n.1, .str (n.2.1), .bool (n.2.2)] [])) (by kernel_rfl) ?_
 simp only [Tree.holds, zd, inR, lo, hi]
 refine ⟨s, ⟨by simp, hs⟩, ⟨_, rfl⟩, ?_⟩
 rintro _ rfl
 exact RetR.scal hq rfl (by simp [resV])
def VU : Ctr := ctrP true (fun s : List UInt8 => [.str s]) (fun s => s.length < 2 ^ 62) (fun s r => r = cutR s) (fun _ r => (.tup [.str r.1, .str r.2.1, .bool r.2.2], []))
def GC3 : Nat → Option Ctr := fun f => if f = 122 then some (cutC) else if f = 94 then some (uW) else none
theorem Ut : ∀ g c, GC3 g = some c → zc Tryz.prog g c := okIf zfv (okIf ZK (okNone))
theorem Wi : zc Tryz.prog 92 VU := by
 refine ze (fn := Tryz.f92) (c := Tryz.f92.body.getD .skip) rfl rfl rfl fun s hs O w0 Q hq => ?_
 replace hq := hq _ rfl
 refine zb.run hmix Ut [] 400 (T := .ex (fun (x : List UInt8) => eqL [AV.str s, AV.str (Array.toList #[(47 : UInt8)])] [AV.str x, AV.str [(47 : UInt8)]] ∧ x.length < 4611686018427387904) fun n => .all (fun (r : List UInt8 × List UInt8 × Bool) => r = cutR n) fun n => .leaf (.ret [.str n.1, .str (n.2.1), .bool (n.2.2)] [])) (by kernel_rfl) ?_
 simp only [Tree.holds, zd, inR, lo, hi]
 refine ⟨s, ⟨by simp, hs⟩, ⟨_, rfl⟩, ?_⟩
 rintro _ rfl
 exact RetR.scal hq rfl (by simp [resV])
def ze3 : Ctr := ctrP true (fun s : List UInt8 => [.str s]) (fun s => s.length < 2 ^ 62) (fun s r => r = if errI s = 12 then 12 else 0) (fun _ (r : Int) => (.int .i64 r, []))
theorem zcg : zc Tryz.prog 93 ze3 := by
 refine ze (fn := Tryz.f93) (c := Tryz.f93.body.getD .skip) rfl rfl rfl fun s hs O w0 Q hq => ?_
 replace hq := hq _ rfl
 refine zb.run hmix Ut [] 400 (T := .ex (fun (x : List UInt8) => eqL [AV.str s] [AV.str x] ∧ x.length < 4611686018427387904) fun n => .all (fun (r : Int) => r = errI n) fun n => .ite (!decide (n = 14)) (.leaf (.ret [.int .i64 n] [])) (.leaf (.ret [.int .i64 0] []))) (by kernel_rfl) ?_
 simp only [Tree.holds, zd, inR, lo, hi]
 refine ⟨s, ⟨by simp, hs⟩, ⟨_, rfl⟩, ?_⟩
 rintro _ rfl
 rcases j8 s with h | h | h <;> simp only [h] at hq ⊢
 all_goals
  refine ⟨fun h => ?_, fun h => ?_⟩
  all_goals first
   | (exfalso; revert h; decide)
   | exact RetR.scal hq rfl (by simp [resV])
def uy : Ctr := ctrP true (fun s : List UInt8 => [.str s]) (fun s => s.length < 2 ^ 62) (fun s r => r = errR s) (fun _ (r : Int) => (.int .i64 r, []))
def GC4 : Nat → Option Ctr := fun f => if f = 92 then some (VU) else if f = 93 then some (ze3) else if f = 94 then some (uW) else if f = 95 then some (gcdC) else none
theorem zfs : ∀ g c, GC4 g = some c → zc Tryz.prog g c := okIf Wi (okIf zcg (okIf ZK (okIf zav (okNone))))
theorem yQ : zc Tryz.prog 55 uy := by
 refine ze (fn := Tryz.f55) (c := Tryz.f55.body.getD .skip) rfl rfl rfl fun s hs O w0 Q hq => ?_
 replace hq := hq _ rfl
 refine zb.run hmix zfs [] 400 (T := .ex (fun (x : List UInt8) => eqL [AV.str s] [AV.str x] ∧ x.length < 4611686018427387904) fun n => .all (fun (r : List UInt8 × List UInt8 × Bool) => r = cutR n) fun n => .ex (fun (x : List UInt8) => eqL [AV.str n.1] [AV.str x] ∧ x.length < 4611686018427387904) fun n_1 => .all (fun (r : Int) => r = if errI n_1 = 12 then (12 : Int) else (0 : Int)) fun n_2 => .ex (fun (x : List UInt8) => (!decide (n_2 = 0)) = false ∧ n.2.2 = true → eqL [AV.str (n.2.1)] [AV.str x] ∧ x.length < 4611686018427387904) fun n_3 => .all (fun (x : Int) => (!decide (n_2 = 0)) = false ∧ n.2.2 = true → x = if errI n_3 = 12 then (12 : Int) else (0 : Int)) fun n_4 => .side (((!decide (n_2 = 0)) = false ∧ n.2.2 = true) ∧ (!decide (n_4 = 0)) = false → (0 : Int) ≤ 0 ∧ (0 : Int) < (↑(List.length (n.2.1)) : Int)) (.ite (bif !decide (n_2 = 0) then true else bif n.2.2 then bif bif bif !decide (n_4 = 0) then true else decide ((↑(UInt8.toNat (List.getD (n.2.1) 0 (0 : UInt8))) : Int) = 45) then true else decide (n.2.1 = Array.toList #[(48 : UInt8)]) then true else decide (n.2.1 = Array.toList #[(49 : UInt8)]) else false) (.leaf (.ret [.int .i64 12] [])) (.ex (fun (x : List UInt8) => eqL [AV.str n.1] [AV.str x] ∧ x.length < 4611686018427387904) fun n_5 => .all (fun (r : Int) => r = errI n_5) fun n_6 => .ex (fun (x : List UInt8) => (!decide (n_6 = 0)) = false ∧ n.2.2 = true → eqL [AV.str (n.2.1)] [AV.str x] ∧ x.length < 4611686018427387904) fun n_7 => .all (fun (x : Int) => (!decide (n_6 = 0)) = false ∧ n.2.2 = true → x = errI n_7) fun n_8 => .ite (bif !decide (n_6 = 0) then true else bif n.2.2 then !decide (n_8 = 0) else false) (.leaf (.ret [.int .i64 14] [])) (.ite (n.2.2) (.ex (fun (x : List UInt8 × List UInt8) => eqL [AV.str n.1, AV.str (n.2.1)] [AV.str x.1, AV.str x.2] ∧ x.1.length < 4611686018427387904 ∧ x.2.length < 4611686018427387904) fun n => .all (fun (r : List UInt8 × Int) => r = gcdR n.1 n.2) fun n => .ite (!decide (n.1 = Array.toList #[(49 : UInt8)])) (.leaf (.ret [.int .i64 12] [])) (.leaf (.ret [.int .i64 0] []))) (.leaf (.ret [.int .i64 0] [])))))) (by kernel_rfl) ?_
 simp only [Tree.holds, zd, inR, lo, hi]
 refine ⟨s, ⟨by simp, hs⟩, ⟨_, rfl⟩, ?_⟩
 rintro _ rfl
 have hlen := u0 s
 have hno : (cutR s).2.2 = false → (cutR s).1 = s := by
  intro h
  unfold cutR at h ⊢
  split at h
  ·cases h
  ·rename_i hn; rw [if_neg hn]
 simp only [errR] at hq
 generalize cutR s = c at hq hlen hno ⊢
 obtain ⟨n, d, f⟩ := c
 simp only at hq hlen hno ⊢
 refine ⟨n, ⟨by simp, by omega⟩, ⟨_, rfl⟩, ?_⟩
 rintro _ rfl
 refine ⟨d, fun _ => ⟨by simp, by omega⟩, ⟨_, fun _ => rfl⟩, ?_⟩
 intro fd hfd
 cases f with
 | false =>
  have hn := hno rfl
  subst hn
  rw [if_neg (by decide)] at hq
  refine ⟨fun h => by simp at h, fun _ => ⟨fun h => ?_, fun h => ?_⟩⟩
  ·rcases j8 n with e | e | e <;> rw [e] at hq h
   ·simp at h
   ·exact RetR.scal hq rfl (by simp [resV])
   ·simp at h
  ·have hn12 : errI n ≠ 12 := by
    intro e; rw [e] at h; simp at h
   refine ⟨n, ⟨by simp, by omega⟩, ⟨_, rfl⟩, ?_⟩
   rintro _ rfl
   refine ⟨d, fun _ => ⟨by simp, by omega⟩, ⟨_, fun _ => rfl⟩, ?_⟩
   intro fd2 _
   refine ⟨fun h => ?_, fun h => ⟨fun h => (by cases h), fun _ => ?_⟩⟩
   ·rcases j8 n with e | e | e
    ·rw [e] at h; simp at h
    ·exact absurd e hn12
    ·rw [e] at hq; exact RetR.scal hq rfl (by simp [resV])
   ·rcases j8 n with e | e | e
    ·rw [e] at hq; exact RetR.scal hq rfl (by simp [resV])
    ·exact absurd e hn12
    ·rw [e] at h; simp at h
 | true =>
  rw [if_pos rfl] at hq
  by_cases hn : errI n = 12
  ·rw [if_pos (.inl hn)] at hq
   simp only [hn]
   refine ⟨fun h => by simp at h, fun _ => ⟨fun _ => RetR.scal hq rfl (by simp [resV]), fun h => by simp at h⟩⟩
  ·rw [if_neg hn] at hfd ⊢
   have hfd := hfd ⟨by simp, rfl⟩
   subst hfd
   by_cases hd : errI d = 12
   ·rw [if_pos (.inr (.inl hd))] at hq
    rw [if_pos hd]
    refine ⟨fun h => by simp at h, fun _ => ⟨fun _ => RetR.scal hq rfl (by simp [resV]), fun h => by simp at h⟩⟩
   ·rw [if_neg hd]
    have hd0 : d ≠ [] := by rintro rfl; exact hd Zx
    have hneg := y5 hd0
    have hneg2 : decide (((d.getD 0 0).toNat : Int) = 45) = negI d := by
     rw [hneg]
     by_cases h : d.getD 0 0 = 45
     ·rw [h]; rfl
     ·rw [decide_eq_false h]
      refine decide_eq_false fun h2 => h (xc ?_)
      rw [h2]; rfl
    rw [hneg2]
    refine ⟨fun _ => by have := List.length_pos_iff.2 hd0; omega, fun _ => ⟨fun h => ?_, fun h => ?_⟩⟩
    ·have : negI d = true ∨ d = [48] ∨ d = [49] := by
      revert h
      cases negI d <;> simp
     rw [if_pos (.inr (.inr this))] at hq
     exact RetR.scal hq rfl (by simp [resV])
    ·have : ¬ (errI n = 12 ∨ errI d = 12 ∨ negI d = true ∨ d = [48] ∨ d = [49]) := by
      revert h
      cases negI d <;> simp [hn, hd]
     rw [if_neg this] at hq
     refine ⟨n, ⟨by simp, by omega⟩, ⟨_, rfl⟩, ?_⟩
     rintro _ rfl
     refine ⟨d, fun _ => ⟨by simp, by omega⟩, ⟨_, fun _ => rfl⟩, ?_⟩
     intro ed hed
     by_cases hn0 : errI n = 0
     ·have hed := hed ⟨by simp [hn0], rfl⟩
      subst hed
      by_cases hd0 : errI d = 0
      ·rw [if_neg (by simp [hn0, hd0])] at hq
       refine ⟨fun h => by simp [hn0, hd0] at h, fun _ => ⟨fun _ => ?_, fun h => by cases h⟩⟩
       refine ⟨(n, d), ⟨by simp, by simp only; omega, by simp only; omega⟩, ⟨_, rfl⟩, ?_⟩
       rintro _ rfl
       refine ⟨fun h => ?_, fun h => ?_⟩
       ·rw [if_pos (by simpa using h)] at hq
        exact RetR.scal hq rfl (by simp [resV])
       ·rw [if_neg (by simpa using h)] at hq
        exact RetR.scal hq rfl (by simp [resV])
      ·rw [if_pos (.inr hd0)] at hq
       refine ⟨fun _ => RetR.scal hq rfl (by simp [resV]), fun h => by simp [hn0, hd0] at h⟩
     ·rw [if_pos (.inl hn0)] at hq
      refine ⟨fun _ => RetR.scal hq rfl (by simp [resV]), fun h => by simp [hn0] at h⟩
def VP : Ctr := ctrP true (fun s : List UInt8 => [.str s]) (fun s => s.length < 2 ^ 62) (fun s r => r = if zw s < s.length then (zw s : Int) else -1) (fun _ (r : Int) => (.int .i64 r, []))
def SSl (s : List UInt8) (i : Nat) : KV := [(0, .str s), (3, .int .i64 (i : Int))]
theorem Wt : zc Tryz.prog 113 VP := by
 refine ze (fn := Tryz.f113) (c := Tryz.f113.body.getD .skip) rfl rfl rfl fun s hs O w0 Q hq => ?_
 replace hq := hq _ rfl
 refine zb.run hmix zo [0, 3] 400 (T := .leaf (.loop (Prod.fst (lps K113 0)) (Prod.snd (lps K113 0)) [(0, .str s), (3, .int .i64 0)] [])) (by kernel_rfl) ?_
 simp only [Tree.holds, zd, inR, lo, hi]
 refine zb.loop (ι := {i : Nat // i ≤ s.length ∧ ∀ j, j < i → s.getD j 0 ≠ 47}) (fun i => SSl s i.1) (fun _ => []) (fun i => s.length - i.1) ⟨0, Nat.zero_le _, fun j hj => by omega⟩ 0 ?_ ?_ (by kernel_rfl)
 ·exact ⟨by simp [SSl], by simp, by kernel_rfl, Nat.zero_le _⟩
 ·rintro ⟨i, hil, hib⟩
  refine zb.run hmix zo [0, 3] 400 (T := .ite (decide ((↑i : Int) < s.length)) (.side ((0 : Int) ≤ i ∧ (↑i : Int) < s.length) (.ite (decide ((↑(UInt8.toNat (List.getD s (Int.toNat (↑i : Int)) (0 : UInt8))) : Int) = 47)) (.leaf (.ret [.int .i64 i] [])) (.side (inR .i64 ((↑i : Int) + (1 : Int))) (.leaf (.back 0 [(0, .str s), (3, .int .i64 ((↑i : Int) + (1 : Int)))] []))))) (.leaf (.ret [.int .i64 (-1 : Int)] []))) (by kernel_rfl) ?_
  simp only [Tree.holds, zd, inR, lo, hi, Int.toNat_natCast]
  refine ⟨fun hlt => ?_, fun hge => ?_⟩
  ·have hlt : i < s.length := by have := of_decide_eq_true hlt; omega
   refine ⟨by omega, fun _ => ⟨fun h => ?_, fun h => ⟨by omega, fun _ => ?_⟩⟩⟩
   ·have h : s.getD i 0 = 47 := xc (of_decide_eq_true h)
    have e := W4 hlt h hib
    rw [if_pos (by omega), e] at hq
    exact RetR.scal hq rfl (by simp [resV])
   ·have h : s.getD i 0 ≠ 47 := by
     intro h2
     exact of_decide_eq_false h (by rw [h2]; rfl)
    rw [if_pos trivial]
    refine ⟨⟨i + 1, hlt, fun j hj => ?_⟩, by show s.length - (i + 1) < s.length - i; omega, by simp [SSl], by simp, by kernel_rfl, Nat.zero_le _⟩
    rcases Nat.lt_or_ge j i with h1 | h1
    ·exact hib j h1
    ·have : j = i := by omega
     rw [this]; exact h
  ·have hge : i = s.length := by have := of_decide_eq_false hge; omega
   subst hge
   have e := u7 hib
   rw [if_neg (by omega)] at hq
   exact RetR.scal hq rfl (by simp [resV])
def uJ : Ctr := ctrP true (fun s : List UInt8 => [.str s]) (fun s => s.length < 2 ^ 62) (fun s r => r = ((cutR s).1, if (cutR s).2.2 then (cutR s).2.1 else [49])) (fun _ r => (.tup [.str r.1, .str r.2], []))
def GQ1 : Nat → Option Ctr := fun f => if f = 113 then some (VP) else none
theorem zfj : ∀ g c, GQ1 g = some c → zc Tryz.prog g c := okIf Wt (okNone)
theorem uT : zc Tryz.prog 111 uJ := by
 refine ze (fn := Tryz.f111) (c := Tryz.f111.body.getD .skip) rfl rfl rfl fun s hs O w0 Q hq => ?_
 replace hq := hq _ rfl
 refine zb.run hmix zfj [] 400 (T := .ex (fun (x : List UInt8) => eqL [AV.str s] [AV.str x] ∧ x.length < 4611686018427387904) fun n => .all (fun (r : Int) => r = if zw n < n.length then (↑(zw n) : Int) else (-1 : Int)) fun n => .ite (decide (n < 0)) (.leaf (.ret [.str s, .str (Array.toList #[(49 : UInt8)])] [])) (.side ((0 : Int) ≤ n ∧ n ≤ (↑s.length : Int)) (.side (inR .i64 (n + (1 : Int))) (.side ((0 : Int) ≤ n + (1 : Int) ∧ n + (1 : Int) ≤ s.length) (.leaf (.ret [.str (List.drop 0 (List.take (Int.toNat n) s)), .str (List.drop (Int.toNat (n + (1 : Int))) (List.take s.length s))] [])))))) (by kernel_rfl) ?_
 simp only [Tree.holds, zd, inR, lo, hi]
 refine ⟨s, ⟨by simp, hs⟩, ⟨_, rfl⟩, ?_⟩
 rintro _ rfl
 by_cases h : zw s < s.length
 ·simp only [if_pos h]
  rw [u4 h] at hq
  refine ⟨fun hn => ?_, fun hn => ?_⟩
  ·have := of_decide_eq_true hn; omega
  ·refine ⟨by omega, fun _ => ⟨by omega, fun _ => ⟨by omega, fun _ => ?_⟩⟩⟩
   exact RetR.scal hq rfl (by simp [resV])
 ·simp only [if_neg h]
  rw [QZ h] at hq
  refine ⟨fun hn => RetR.scal hq rfl (by simp [resV]), fun hn => ?_⟩
  have := of_decide_eq_false hn; omega
def xE : Ctr := ctrP true (fun s : List UInt8 => [.str s]) (fun s => s.length < 2 ^ 40) (fun s r => r = errR s) (fun _ (r : Int) => (.int .i64 r, []))
def GQ2 : Nat → Option Ctr := fun f => if f = 113 then some (VP) else if f = 111 then some (uJ) else if f = 112 then some (wX) else if f = 114 then some (zbg) else none
theorem zep : ∀ g c, GQ2 g = some c → zc Tryz.prog g c := okIf Wt (okIf uT (okIf vq (okIf KA (okNone))))
theorem x3 : zc Tryz.prog 78 xE := by
 refine ze (fn := Tryz.f78) (c := Tryz.f78.body.getD .skip) rfl rfl rfl fun s hs O w0 Q hq => ?_
 replace hq := hq _ rfl
 refine zb.run hmix zep [] 400 (T := .ex (fun (x : List UInt8) => eqL [AV.str s] [AV.str x] ∧ x.length < 4611686018427387904) fun n => .all (fun (r : List UInt8 × List UInt8) => r = (Prod.fst (cutR n), if Prod.snd (Prod.snd (cutR n)) = true then Prod.fst (Prod.snd (cutR n)) else [(49 : UInt8)])) fun n => .ex (fun (x : List UInt8) => eqL [AV.str n.1] [AV.str x] ∧ x.length < 1099511627776) fun n_1 => .all (fun (r : List Nat × Bool × Bool) => r = digR n_1) fun n_2 => .ex (fun (x : List UInt8) => eqL [AV.str n.2] [AV.str x] ∧ x.length < 1099511627776) fun n_3 => .all (fun (r : List Nat × Bool × Bool) => r = digR n_3) fun n_4 => .ex (fun (x : List UInt8) => (bif bif bif !Prod.snd n_2.2 then true else !Prod.snd n_4.2 then true else n_4.2.1 then true else decide (n.2 = Array.toList #[(48 : UInt8)])) = false → eqL [AV.str s] [AV.str x] ∧ x.length < 4611686018427387904) fun n_5 => .all (fun (x : Int) => (bif bif bif !Prod.snd n_2.2 then true else !Prod.snd n_4.2 then true else n_4.2.1 then true else decide (n.2 = Array.toList #[(48 : UInt8)])) = false → x = if zw n_5 < n_5.length then (↑(zw n_5) : Int) else (-1 : Int)) fun n_6 => .ite (bif bif bif bif !Prod.snd n_2.2 then true else !Prod.snd n_4.2 then true else n_4.2.1 then true else decide (n.2 = Array.toList #[(48 : UInt8)]) then true else bif decide ((0 : Int) ≤ n_6) then decide (n.2 = Array.toList #[(49 : UInt8)]) else false) (.leaf (.ret [.int .i64 12] [])) (.ite (bif decide ((1000 : Int) < n_2.1.length) then true else decide ((1000 : Int) < n_4.1.length)) (.leaf (.ret [.int .i64 14] [])) (.ex (fun (x : List UInt8 × List UInt8) => eqL [AV.str n.1, AV.str n.2] [AV.str x.1, AV.str x.2] ∧ x.1.length < 1099511627776 ∧ x.2.length < 1099511627776) fun n => .all (fun (r : List UInt8 × Int) => r = gcdR n.1 n.2) fun n => .ex (fun (x : List UInt8) => eqL [AV.str s] [AV.str x] ∧ x.length < 4611686018427387904) fun n_7 => .all (fun (r : Int) => r = if zw n_7 < n_7.length then (↑(zw n_7) : Int) else (-1 : Int)) fun n_8 => .ite (bif decide ((0 : Int) ≤ n_8) then !decide (n.1 = Array.toList #[(49 : UInt8)]) else false) (.leaf (.ret [.int .i64 12] [])) (.leaf (.ret [.int .i64 0] []))))) (by kernel_rfl) ?_
 simp only [Tree.holds, zd, inR, lo, hi]
 refine ⟨s, ⟨by simp, by omega⟩, ⟨_, rfl⟩, ?_⟩
 rintro _ rfl
 have hlen := u0 s
 have hfl := UF s
 have hno : (cutR s).2.2 = false → (cutR s).1 = s := by
  intro h
  unfold cutR at h ⊢
  split at h
  ·cases h
  ·rename_i hn; rw [if_neg hn]
 simp only [errR] at hq
 generalize cutR s = c at hq hlen hfl hno ⊢
 obtain ⟨n, d, f⟩ := c
 simp only at hq hlen hfl hno ⊢
 obtain ⟨e, he⟩ : ∃ e, (if f = true then d else [49]) = e := ⟨_, rfl⟩
 have hel : e.length < 1099511627776 := by
  rw [← he]; split
  ·omega
  ·simp
 simp only [he]
 refine ⟨n, ⟨by simp, by omega⟩, ⟨_, rfl⟩, ?_⟩
 rintro _ rfl
 refine ⟨e, ⟨by simp, by omega⟩, ⟨_, rfl⟩, ?_⟩
 rintro _ rfl
 refine ⟨s, fun _ => ⟨by simp, by omega⟩, ⟨_, fun _ => rfl⟩, ?_⟩
 intro sv hsv
 rcases Zh n with ⟨hn1, hn2⟩ | ⟨hn1, ln, hn2, hn3⟩
 ·have hq : Q (.int .i64 12, []) := by
   cases f with
   | false => rw [if_neg (by decide), ← hno rfl, hn1] at hq; exact hq
   | true => rw [if_pos rfl, if_pos (.inl hn1)] at hq; exact hq
  simp only [hn2]
  exact ⟨fun _ => RetR.scal hq rfl (by simp [resV]), fun h => by simp at h⟩
 rcases Zh e with ⟨he1, he2⟩ | ⟨he1, le, he2, he3⟩
 ·have hq : Q (.int .i64 12, []) := by
   cases f with
   | false => rw [if_neg (by decide)] at he; subst he; exact absurd he1 (by decide)
   | true =>
    rw [if_pos rfl] at he; subst he
    rw [if_pos rfl, if_pos (.inr (.inl he1))] at hq; exact hq
  simp only [hn2, he2]
  exact ⟨fun _ => RetR.scal hq rfl (by simp [resV]), fun h => by simp at h⟩
 simp only [hn2, he2, Bool.not_true, cond_false] at hsv ⊢
 cases f with
 | false =>
  rw [if_neg (by decide)] at he hq
  subst he
  have hnn : negI [49] = false := by decide
  have h49 : errI [49] = 0 := by decide
  have hs := hno rfl
  subst hs
  simp only [hnn, cond_false] at hsv ⊢
  have hsv := hsv (by decide)
  rw [← hsv] at hfl
  rw [← hfl, hn3, he3, h49]
  refine ⟨fun h => by simp at h, fun _ => ⟨fun h => ?_, fun h => ?_⟩⟩
  ·rcases j8 n with e | e | e
   ·rw [e] at h; simp at h
   ·exact absurd e hn1
   ·rw [e] at hq; exact RetR.scal hq rfl (by simp [resV])
  ·have h0 : errI n = 0 := by
    rcases j8 n with e | e | e
    ·exact e
    ·exact absurd e hn1
    ·rw [e] at h; simp at h
   rw [h0] at hq
   refine ⟨(n, [49]), ⟨by simp, by simp only; omega, by simp⟩, ⟨_, rfl⟩, ?_⟩
   rintro _ rfl
   refine ⟨n, ⟨by simp, by omega⟩, ⟨_, rfl⟩, ?_⟩
   rintro _ rfl
   rw [← hsv, ← hfl]
   refine ⟨fun h => by simp at h, fun _ => RetR.scal hq rfl (by simp [resV])⟩
 | true =>
  rw [if_pos rfl] at he hq
  subst he
  cases hng : negI d with
  | true =>
   rw [if_pos (.inr (.inr (.inl hng)))] at hq
   exact ⟨fun _ => RetR.scal hq rfl (by simp [resV]), fun h => by simp at h⟩
  | false =>
   simp only [hng, cond_false] at hsv ⊢
   by_cases h48 : d = [48]
   ·rw [if_pos (.inr (.inr (.inr (.inl h48))))] at hq
    rw [decide_eq_true h48]
    exact ⟨fun _ => RetR.scal hq rfl (by simp [resV]), fun h => by simp at h⟩
   ·rw [decide_eq_false h48] at hsv ⊢
    have hsv := hsv rfl
    rw [← hsv] at hfl
    rw [← hfl]
    simp only [cond_false, cond_true]
    by_cases h49 : d = [49]
    ·rw [if_pos (.inr (.inr (.inr (.inr h49))))] at hq
     rw [decide_eq_true h49]
     exact ⟨fun _ => RetR.scal hq rfl (by simp [resV]), fun h => by simp at h⟩
    ·rw [decide_eq_false h49]
     rw [if_neg (by simp [hn1, he1, hng, h48, h49])] at hq
     refine ⟨fun h => (by cases h), fun _ => ?_⟩
     rw [hn3, he3]
     by_cases hn0 : errI n = 0
     ·by_cases hd0 : errI d = 0
      ·rw [if_neg (by simp [hn0, hd0])] at hq
       refine ⟨fun h => by simp [hn0, hd0] at h, fun _ => ?_⟩
       refine ⟨(n, d), ⟨by simp, by simp only; omega, by simp only; omega⟩, ⟨_, rfl⟩, ?_⟩
       rintro _ rfl
       refine ⟨s, ⟨by simp, by omega⟩, ⟨_, rfl⟩, ?_⟩
       rintro _ rfl
       rw [← hsv, ← hfl]
       refine ⟨fun h => ?_, fun h => ?_⟩
       ·rw [if_pos (by simpa using h)] at hq
        exact RetR.scal hq rfl (by simp [resV])
       ·rw [if_neg (by simpa using h)] at hq
        exact RetR.scal hq rfl (by simp [resV])
      ·rw [if_pos (.inr hd0)] at hq
       refine ⟨fun _ => RetR.scal hq rfl (by simp [resV]), fun h => by simp [hn0, hd0] at h⟩
     ·rw [if_pos (.inl hn0)] at hq
      refine ⟨fun _ => RetR.scal hq rfl (by simp [resV]), fun h => by simp [hn0] at h⟩
end Go.Proofs.Tryz
end

/- Names and days. -/
section
set_option maxRecDepth 100000
open Go Go.Sx Go.Proofs Go.Nov
namespace Go.Proofs.Tryz
attribute [local simp] eqKV eqA eqA0 eqH eqB eqL eqL0
noncomputable def K41 : List Go.Sx.Item := [.code (Tryz.f41.body.getD .skip)]
noncomputable def K47 : List Go.Sx.Item := [.code (Tryz.f47.body.getD .skip)]
noncomputable def K91 : List Go.Sx.Item := [.code (Tryz.f91.body.getD .skip)]
noncomputable def K54 : List Go.Sx.Item := [.code (Tryz.f54.body.getD .skip)]
noncomputable def K79 : List Go.Sx.Item := [.code (Tryz.f79.body.getD .skip)]
def wS : Ctr := ctrP true (fun d : Int => [.int .i64 d]) (fun _ => True) (fun d r => r = dayB d) (fun _ (r : Bool) => (.bool r, []))
theorem yy : zc Tryz.prog 41 wS := by
 refine ze (fn := Tryz.f41) (c := Tryz.f41.body.getD .skip) rfl rfl rfl fun d hs O w0 Q hq => ?_
 replace hq := hq _ rfl
 refine zb.run hmix zo [] 400 (T := .leaf (.ret [.bool (bif decide ((0 : Int) ≤ d) then decide (d ≤ 99999) else false)] [])) (by kernel_rfl) ?_
 simp only [Tree.holds, zd]
 refine RetR.scal hq rfl ?_
 simp only [resV, dayB]
 cases decide (0 ≤ d) <;> rfl
theorem Jj : zc Tryz.prog 47 wS := by
 refine ze (fn := Tryz.f47) (c := Tryz.f47.body.getD .skip) rfl rfl rfl fun d hs O w0 Q hq => ?_
 replace hq := hq _ rfl
 refine zb.run hmix zo [] 400 (T := .leaf (.ret [.bool (bif decide ((0 : Int) ≤ d) then decide (d ≤ 99999) else false)] [])) (by kernel_rfl) ?_
 simp only [Tree.holds, zd]
 refine RetR.scal hq rfl ?_
 simp only [resV, dayB]
 cases decide (0 ≤ d) <;> rfl
theorem Ku (c : UInt8) : (bif bif decide (97 ≤ (c.toNat : Int)) then decide ((c.toNat : Int) ≤ 122) else false then true else bif decide (65 ≤ (c.toNat : Int)) then decide ((c.toNat : Int) ≤ 90) else false) = isL c := by
 have e1 : decide (97 ≤ (c.toNat : Int)) = decide (97 ≤ c.toNat) := decide_eq_decide.2 (by omega)
 have e2 : decide ((c.toNat : Int) ≤ 122) = decide (c.toNat ≤ 122) := decide_eq_decide.2 (by omega)
 have e3 : decide (65 ≤ (c.toNat : Int)) = decide (65 ≤ c.toNat) := decide_eq_decide.2 (by omega)
 have e4 : decide ((c.toNat : Int) ≤ 90) = decide (c.toNat ≤ 90) := decide_eq_decide.2 (by omega)
 rw [e1, e2, e3, e4]
 simp only [isL]
 cases decide (97 ≤ c.toNat) <;> cases decide (c.toNat ≤ 122) <;> cases decide (65 ≤ c.toNat) <;> rfl
def Xg : Ctr := ctrP true (fun c : UInt8 => [.int .u8 (c.toNat : Int)]) (fun _ => True) (fun c r => r = isL c) (fun _ (r : Bool) => (.bool r, []))
theorem Yc : zc Tryz.prog 91 Xg := by
 refine ze (fn := Tryz.f91) (c := Tryz.f91.body.getD .skip) rfl rfl rfl fun c hs O w0 Q hq => ?_
 replace hq := hq _ rfl
 refine zb.run hmix zo [] 400 (T := .leaf (.ret [.bool (bif bif decide ((97 : Int) ≤ (↑(UInt8.toNat c) : Int)) then decide ((↑(UInt8.toNat c) : Int) ≤ 122) else false then true else bif decide ((65 : Int) ≤ (↑(UInt8.toNat c) : Int)) then decide ((↑(UInt8.toNat c) : Int) ≤ 90) else false)] [])) (by kernel_rfl) ?_
 simp only [Tree.holds, zd]
 refine RetR.scal hq rfl ?_
 simp only [resV]
 rw [Ku]
theorem kU (c d : UInt8) : decide ((c.toNat : Int) = (d.toNat : Int)) = (c == d) := by
 by_cases h : c = d
 ·subst h; simp
 ·rw [decide_eq_false fun h2 => h (xc h2)]
  simp [h]
theorem zck (c : UInt8) : (bif decide ((c.toNat : Int) < 48) then true else decide (57 < (c.toNat : Int))) = !isD c := by
 rw [Bool.cond_eq_ite]; exact k7 c
theorem Uq (c : UInt8) : (bif decide (48 ≤ (c.toNat : Int)) then decide ((c.toNat : Int) ≤ 57) else false) = isD c := by
 have e1 : decide (48 ≤ (c.toNat : Int)) = decide (48 ≤ c.toNat) := decide_eq_decide.2 (by omega)
 have e2 : decide ((c.toNat : Int) ≤ 57) = decide (c.toNat ≤ 57) := decide_eq_decide.2 (by omega)
 rw [e1, e2]; simp only [isD]
 cases decide (48 ≤ c.toNat) <;> cases decide (c.toNat ≤ 57) <;> rfl
theorem Uh (c : UInt8) : (bif bif bif !isL c then bif decide ((c.toNat : Int) < 48) then true else decide (57 < (c.toNat : Int)) else false then !decide ((c.toNat : Int) = 95) else false then !decide ((c.toNat : Int) = 45) else false) = !isN c := by
 rw [zck]
 have e1 : decide ((c.toNat : Int) = 95) = (c == 95) := kU c 95
 have e2 : decide ((c.toNat : Int) = 45) = (c == 45) := kU c 45
 rw [e1, e2]; simp only [isN]
 cases isL c <;> cases isD c <;> cases (c == 95) <;> cases (c == 45) <;> rfl
theorem XN (c : UInt8) (z : Bool) : (bif !bif bif decide (97 ≤ (c.toNat : Int)) then decide ((c.toNat : Int) ≤ 122) else false then true else bif decide (65 ≤ (c.toNat : Int)) then decide ((c.toNat : Int) ≤ 90) else false then
  bif z then true else !bif bif bif decide (48 ≤ (c.toNat : Int)) then decide ((c.toNat : Int) ≤ 57) else false then true else decide ((c.toNat : Int) = 95) then true else decide ((c.toNat : Int) = 45) else false) = !(isL c || (!z && isN c)) := by
 rw [Ku, Uq]
 have e1 : decide ((c.toNat : Int) = 95) = (c == 95) := kU c 95
 have e2 : decide ((c.toNat : Int) = 45) = (c == 45) := kU c 45
 rw [e1, e2]; simp only [isN]
 cases isL c <;> cases z <;> cases isD c <;> cases (c == 95) <;> cases (c == 45) <;> rfl
theorem zbq {c : UInt8} (h : isL c = true) : isN c = true := by simp [isN, h]
def uh : Ctr := ctrP true (fun s : List UInt8 => [.str s]) (fun s => s.length < 2 ^ 62) (fun s r => r = qe s) (fun _ (r : Bool) => (.bool r, []))
def GN1 : Nat → Option Ctr := fun f => if f = 91 then some (Xg) else none
theorem zb5 : ∀ g c, GN1 g = some c → zc Tryz.prog g c := okIf Yc (okNone)
def SNa (s : List UInt8) (i : Nat) : KV := [(0, .str s), (20, .int .i64 (s.length : Int)), (21, .int .i64 (i : Int)), (31, .undef), (32, .undef), (33, .undef), (34, .undef), (35, .undef), (36, .undef), (39, .undef), (40, .undef), (43, .undef), (44, .undef)]
theorem X4 {O : Nat → Prop} {w0 : World} {Q : AV × Heap → Prop} {Hs : Nat → KV → Heap → Prop} (s : List UInt8) (hs : s.length < 2 ^ 62) (hq : Q (.bool (s.all isN), [])) :
  zb Tryz.prog Tryz.f54 O 0 w0 [] Hs (RetR uh 0 Q) (.code (.loop (lps K54 0).1) :: (lps K54 0).2) (mk Tryz.f54.ntmps (SNa s 0) []) := by
 refine zb.loop (ι := {i : Nat // i ≤ s.length ∧ ∀ j, j < i → isN (s.getD j 0) = true}) (fun i => SNa s i.1) (fun _ => []) (fun i => s.length - i.1) ⟨0, Nat.zero_le _, fun j hj => by omega⟩ 0 ?_ ?_ (by kernel_rfl)
 ·exact ⟨by simp [SNa], by simp, by kernel_rfl, Nat.zero_le _⟩
 ·rintro ⟨i, hil, hib⟩
  refine zb.run hmix zb5 [0, 20, 21, 31, 32, 33, 34, 35, 36, 39, 40, 43, 44] 400 (T := .ite (decide ((↑i : Int) < s.length)) (.side ((0 : Int) ≤ i ∧ (↑i : Int) < s.length) (.ex (fun (x : UInt8) => eqL [AV.int .u8 (↑(UInt8.toNat (List.getD s (Int.toNat (↑i : Int)) (0 : UInt8))) : Int)] [AV.int .u8 (↑(UInt8.toNat x) : Int)] ∧ True) fun n => .all (fun (r : Bool) => r = isL n) fun n => .ite (bif bif bif !n then bif decide ((↑(UInt8.toNat (List.getD s (Int.toNat (↑i : Int)) (0 : UInt8))) : Int) < 48) then true else decide ((57 : Int) < (↑(UInt8.toNat (List.getD s (Int.toNat (↑i : Int)) (0 : UInt8))) : Int)) else false then !decide ((↑(UInt8.toNat (List.getD s (Int.toNat (↑i : Int)) (0 : UInt8))) : Int) = 95) else false then !decide ((↑(UInt8.toNat (List.getD s (Int.toNat (↑i : Int)) (0 : UInt8))) : Int) = 45) else false) (.leaf (.ret [.bool false] [])) (.side (inR .i64 ((↑i : Int) + (1 : Int))) (.leaf (.back 0 [(0, .str s), (20, .int .i64 s.length), (21, .int .i64 ((↑i : Int) + (1 : Int))), (31, .undef), (32, .undef), (33, .undef), (34, .undef), (35, .undef), (36, .undef), (39, .undef), (40, .undef), (43, .undef), (44, .undef)] []))))) (.leaf (.ret [.bool true] []))) (by kernel_rfl) ?_
  simp only [Tree.holds, zd, inR, lo, hi, Int.toNat_natCast]
  refine ⟨fun hlt => ?_, fun hge => ?_⟩
  ·have hlt : i < s.length := by have := of_decide_eq_true hlt; omega
   refine ⟨by omega, fun _ => ⟨s.getD i 0, ⟨by simp, trivial⟩, ⟨_, rfl⟩, ?_⟩⟩
   rintro _ rfl
   rw [Uh]
   refine ⟨fun h => ?_, fun h => ⟨by omega, fun _ => ?_⟩⟩
   ·rw [xP hlt (by simpa using h)] at hq
    exact RetR.scal hq rfl (by simp [resV])
   ·rw [if_pos trivial]
    refine ⟨⟨i + 1, hlt, fun j hj => ?_⟩, by show s.length - (i + 1) < s.length - i; omega, by simp [SNa], by simp, by kernel_rfl, Nat.zero_le _⟩
    rcases Nat.lt_or_ge j i with h1 | h1
    ·exact hib j h1
    ·have : j = i := by omega
     rw [this]; simpa using h
  ·have hge : i = s.length := by have := of_decide_eq_false hge; omega
   subst hge
   rw [W5 hib] at hq
   exact RetR.scal hq rfl (by simp [resV])
theorem Xe : zc Tryz.prog 54 uh := by
 refine ze (fn := Tryz.f54) (c := Tryz.f54.body.getD .skip) rfl rfl rfl fun s hs O w0 Q hq => ?_
 replace hq := hq _ rfl
 refine zb.run hmix zb5 [0, 20, 21, 31, 32, 33, 34, 35, 36, 39, 40, 43, 44] 400 (T := .side ((bif decide ((↑s.length : Int) < 1) then true else decide ((40 : Int) < s.length)) = false → (0 : Int) ≤ 0 ∧ (0 : Int) < s.length) (.ex (fun (x : UInt8) => (bif decide ((↑s.length : Int) < 1) then true else decide ((40 : Int) < s.length)) = false → eqL [AV.int .u8 (↑(UInt8.toNat (List.getD s 0 (0 : UInt8))) : Int)] [AV.int .u8 (↑(UInt8.toNat x) : Int)] ∧ True) fun n => .all (fun (x : Bool) => (bif decide ((↑s.length : Int) < 1) then true else decide ((40 : Int) < s.length)) = false → x = isL n) fun n => .ite (bif bif decide ((↑s.length : Int) < 1) then true else decide ((40 : Int) < s.length) then true else !n) (.leaf (.ret [.bool false] [])) (.leaf (.loop (Prod.fst (lps K54 0)) (Prod.snd (lps K54 0)) [(0, .str s), (20, .int .i64 s.length), (21, .int .i64 0), (31, .undef), (32, .undef), (33, .undef), (34, .undef), (35, .undef), (36, .undef), (39, .undef), (40, .undef), (43, .undef), (44, .undef)] [])))) (by kernel_rfl) ?_
 simp only [Tree.holds, zd, inR, lo, hi]
 have hd : decide ((s.length : Int) < 1) = !decide (0 < s.length) := by
  by_cases h : 0 < s.length
  ·rw [decide_eq_true h, decide_eq_false (by omega)]; rfl
  ·rw [decide_eq_false h, decide_eq_true (by omega)]; rfl
 have hd2 : decide (40 < (s.length : Int)) = !decide (s.length ≤ 40) := by
  by_cases h : s.length ≤ 40
  ·rw [decide_eq_true h, decide_eq_false (by omega)]; rfl
  ·rw [decide_eq_false h, decide_eq_true (by omega)]; rfl
 rw [hd, hd2]
 have hnb : qe s = (decide (0 < s.length) && decide (s.length ≤ 40) && isL (s.getD 0 0) && s.all isN) := rfl
 cases h1 : decide (0 < s.length) with
 | false =>
  rw [hnb, h1] at hq
  refine ⟨fun h => (by cases h), fun _ => ⟨0, fun h => (by cases h), ⟨false, fun h => (by cases h)⟩, ?_⟩⟩
  intro b _
  exact ⟨fun _ => RetR.scal hq rfl (by simp [resV]), fun h => (by cases h)⟩
 | true =>
  have h1' := of_decide_eq_true h1
  cases h2 : decide (s.length ≤ 40) with
  | false =>
   rw [hnb, h1, h2] at hq
   refine ⟨fun h => (by cases h), fun _ => ⟨0, fun h => (by cases h), ⟨false, fun h => (by cases h)⟩, ?_⟩⟩
   intro b _
   exact ⟨fun _ => RetR.scal hq rfl (by simp [resV]), fun h => (by cases h)⟩
  | true =>
   refine ⟨fun _ => by omega, fun _ => ⟨s.getD 0 0, fun _ => ⟨by simp, trivial⟩, ⟨_, fun _ => rfl⟩, ?_⟩⟩
   intro b hb
   have hb := hb rfl
   subst hb
   cases h3 : isL (s.getD 0 0) with
   | false =>
    rw [hnb, h1, h2, h3] at hq
    exact ⟨fun _ => RetR.scal hq rfl (by simp [resV]), fun h => (by cases h)⟩
   | true =>
    rw [hnb, h1, h2, h3] at hq
    refine ⟨fun h => (by cases h), fun _ => ?_⟩
    exact X4 s hs hq
def SNr (s : List UInt8) (i : Nat) : KV := [(0, .str s), (3, .int .i64 (i : Int)), (27, .undef), (28, .undef), (31, .undef), (32, .undef), (33, .undef), (34, .undef), (35, .undef), (36, .undef), (41, .undef), (42, .undef), (45, .undef), (46, .undef), (49, .undef), (50, .undef), (55, .undef), (56, .undef), (57, .undef), (58, .undef), (59, .undef), (60, .undef)]
theorem Ke {O : Nat → Prop} {w0 : World} {Q : AV × Heap → Prop} {Hs : Nat → KV → Heap → Prop} (s : List UInt8) (hs : s.length < 2 ^ 62) (h0 : 0 < s.length) (hq : Q (.bool (isL (s.getD 0 0) && s.all isN), [])) :
  zb Tryz.prog Tryz.f79 O 0 w0 [] Hs (RetR uh 0 Q) (.code (.loop (lps K79 0).1) :: (lps K79 0).2) (mk Tryz.f79.ntmps (SNr s 0) []) := by
 refine zb.loop (ι := {i : Nat // i ≤ s.length ∧ (∀ j, j < i → isN (s.getD j 0) = true) ∧ (0 < i → isL (s.getD 0 0) = true)}) (fun i => SNr s i.1) (fun _ => []) (fun i => s.length - i.1) ⟨0, Nat.zero_le _, fun j hj => by omega, fun h => by omega⟩ 0 ?_ ?_ (by kernel_rfl)
 ·exact ⟨by simp [SNr], by simp, by kernel_rfl, Nat.zero_le _⟩
 ·rintro ⟨i, hil, hib, hi0⟩
  refine zb.run hmix zo [0, 3, 27, 28, 31, 32, 33, 34, 35, 36, 41, 42, 45, 46, 49, 50, 55, 56, 57, 58, 59, 60] 400 (T := .ite (decide ((↑i : Int) < s.length)) (.side ((0 : Int) ≤ i ∧ (↑i : Int) < s.length) (.ite (bif !bif bif decide ((97 : Int) ≤ (↑(UInt8.toNat (List.getD s (Int.toNat (↑i : Int)) (0 : UInt8))) : Int)) then decide ((↑(UInt8.toNat (List.getD s (Int.toNat (↑i : Int)) (0 : UInt8))) : Int) ≤ 122) else false then true else bif decide ((65 : Int) ≤ (↑(UInt8.toNat (List.getD s (Int.toNat (↑i : Int)) (0 : UInt8))) : Int)) then decide ((↑(UInt8.toNat (List.getD s (Int.toNat (↑i : Int)) (0 : UInt8))) : Int) ≤ 90) else false then bif decide ((↑i : Int) = 0) then true else !bif bif bif decide ((48 : Int) ≤ (↑(UInt8.toNat (List.getD s (Int.toNat (↑i : Int)) (0 : UInt8))) : Int)) then decide ((↑(UInt8.toNat (List.getD s (Int.toNat (↑i : Int)) (0 : UInt8))) : Int) ≤ 57) else false then true else decide ((↑(UInt8.toNat (List.getD s (Int.toNat (↑i : Int)) (0 : UInt8))) : Int) = 95) then true else decide ((↑(UInt8.toNat (List.getD s (Int.toNat (↑i : Int)) (0 : UInt8))) : Int) = 45) else false) (.leaf (.ret [.bool false] [])) (.side (inR .i64 ((↑i : Int) + (1 : Int))) (.leaf (.back 0 [(0, .str s), (3, .int .i64 ((↑i : Int) + (1 : Int))), (27, .undef), (28, .undef), (31, .undef), (32, .undef), (33, .undef), (34, .undef), (35, .undef), (36, .undef), (41, .undef), (42, .undef), (45, .undef), (46, .undef), (49, .undef), (50, .undef), (55, .undef), (56, .undef), (57, .undef), (58, .undef), (59, .undef), (60, .undef)] []))))) (.leaf (.ret [.bool true] []))) (by kernel_rfl) ?_
  simp only [Tree.holds, zd, inR, lo, hi, Int.toNat_natCast]
  refine ⟨fun hlt => ?_, fun hge => ?_⟩
  ·have hlt : i < s.length := by have := of_decide_eq_true hlt; omega
   refine ⟨by omega, fun _ => ?_⟩
   rw [XN]
   have hz : decide ((i : Int) = 0) = decide (i = 0) := decide_eq_decide.2 (by omega)
   rw [hz]
   refine ⟨fun h => ?_, fun h => ⟨by omega, fun _ => ?_⟩⟩
   ·have hf : (isL (s.getD 0 0) && s.all isN) = false := by
     have h : (isL (s.getD i 0) || (!decide (i = 0) && isN (s.getD i 0))) = false := by simpa only [Bool.not_eq_true'] using h
     rcases Nat.eq_zero_or_pos i with hi | hi
     ·subst hi
      have : isL (s.getD 0 0) = false := by
       cases h3 : isL (s.getD 0 0) with
       | false => rfl
       | true => rw [h3] at h; cases h
      rw [this]; rfl
     ·rw [decide_eq_false (by omega)] at h
      have : isN (s.getD i 0) = false := by
       cases h3 : isN (s.getD i 0) with
       | false => rfl
       | true => rw [h3] at h; revert h; cases isL (s.getD i 0) <;> intro h <;> cases h
      rw [xP hlt this]; cases isL (s.getD 0 0) <;> rfl
    rw [hf] at hq
    exact RetR.scal hq rfl (by simp [resV])
   ·rw [if_pos trivial]
    have h : (isL (s.getD i 0) || (!decide (i = 0) && isN (s.getD i 0))) = true := by simpa only [Bool.not_eq_false'] using h
    have hN : isN (s.getD i 0) = true := by
     cases h3 : isL (s.getD i 0) with
     | true => exact zbq h3
     | false =>
      rw [h3] at h
      revert h; cases decide (i = 0) <;> cases isN (s.getD i 0) <;> simp
    refine ⟨⟨i + 1, hlt, fun j hj => ?_, fun _ => ?_⟩, by show s.length - (i + 1) < s.length - i; omega, by simp [SNr], by simp, by kernel_rfl, Nat.zero_le _⟩
    ·rcases Nat.lt_or_ge j i with h1 | h1
     ·exact hib j h1
     ·have : j = i := by omega
      rw [this]; exact hN
    ·rcases Nat.eq_zero_or_pos i with h1 | h1
     ·subst h1
      cases h3 : isL (s.getD 0 0) with
      | true => rfl
      | false => rw [h3] at h; cases h
     ·exact hi0 h1
  ·have hge : i = s.length := by have := of_decide_eq_false hge; omega
   subst hge
   rw [W5 hib, hi0 h0] at hq
   exact RetR.scal hq rfl (by simp [resV])
theorem Wh : zc Tryz.prog 79 uh := by
 refine ze (fn := Tryz.f79) (c := Tryz.f79.body.getD .skip) rfl rfl rfl fun s hs O w0 Q hq => ?_
 replace hq := hq _ rfl
 refine zb.run hmix zo [0, 3, 27, 28, 31, 32, 33, 34, 35, 36, 41, 42, 45, 46, 49, 50, 55, 56, 57, 58, 59, 60] 400 (T := .ite (bif decide ((↑s.length : Int) = 0) then true else decide ((40 : Int) < s.length)) (.leaf (.ret [.bool false] [])) (.leaf (.loop (Prod.fst (lps K79 0)) (Prod.snd (lps K79 0)) [(0, .str s), (3, .int .i64 0), (27, .undef), (28, .undef), (31, .undef), (32, .undef), (33, .undef), (34, .undef), (35, .undef), (36, .undef), (41, .undef), (42, .undef), (45, .undef), (46, .undef), (49, .undef), (50, .undef), (55, .undef), (56, .undef), (57, .undef), (58, .undef), (59, .undef), (60, .undef)] []))) (by kernel_rfl) ?_
 simp only [Tree.holds, zd, inR, lo, hi]
 have hd : decide ((s.length : Int) = 0) = !decide (0 < s.length) := by
  by_cases h : 0 < s.length
  ·rw [decide_eq_true h, decide_eq_false (by omega)]; rfl
  ·rw [decide_eq_false h, decide_eq_true (by omega)]; rfl
 have hd2 : decide (40 < (s.length : Int)) = !decide (s.length ≤ 40) := by
  by_cases h : s.length ≤ 40
  ·rw [decide_eq_true h, decide_eq_false (by omega)]; rfl
  ·rw [decide_eq_false h, decide_eq_true (by omega)]; rfl
 rw [hd, hd2]
 have hnb : qe s = (decide (0 < s.length) && decide (s.length ≤ 40) && isL (s.getD 0 0) && s.all isN) := rfl
 cases h1 : decide (0 < s.length) with
 | false =>
  rw [hnb, h1] at hq
  exact ⟨fun _ => RetR.scal hq rfl (by simp [resV]), fun h => (by cases h)⟩
 | true =>
  cases h2 : decide (s.length ≤ 40) with
  | false =>
   rw [hnb, h1, h2] at hq
   exact ⟨fun _ => RetR.scal hq rfl (by simp [resV]), fun h => (by cases h)⟩
  | true =>
   rw [hnb, h1, h2] at hq
   refine ⟨fun h => (by cases h), fun _ => ?_⟩
   exact Ke s hs (of_decide_eq_true h1) hq
end Go.Proofs.Tryz
end

/- Integers as they are written: sums, products, comparisons. -/
section
namespace Go.Nov
def sumS (m : Bool) (x : Nat) (n : Bool) (y : Nat) : Bool × Nat := if m = n then (m, x + y) else if y ≤ x then (m, x - y) else (n, y - x)
def addI (s t : List UInt8) : List UInt8 × Int := if zl s t = 0 then wr (sumS (negI s) (numI s) (negI t) (numI t)).1 (sumS (negI s) (numI s) (negI t) (numI t)).2 else ([], zl s t)
def subI (s t : List UInt8) : List UInt8 × Int := if zl s t = 0 then wr (sumS (negI s) (numI s) (!negI t) (numI t)).1 (sumS (negI s) (numI s) (!negI t) (numI t)).2 else ([], zl s t)
def mulI (s t : List UInt8) : List UInt8 × Int := if zl s t = 0 then wr (negI s != negI t) (numI s * numI t) else ([], zl s t)
def cmpZ (m : Bool) (x : Nat) (n : Bool) (y : Nat) : Int := if m = true ∧ n = false then -1 else if n = true ∧ m = false then 1 else if m = true then cmpN y x else cmpN x y
def wP (s t : List UInt8) : Int × Int := if zl s t = 0 then (cmpZ (negI s) (numI s) (negI t) (numI t), 0) else (0, zl s t)
theorem up {d : Nat} (h : d < 10) : (byt d).toNat = 48 + d := by
 unfold byt
 rw [UInt8.toNat_ofNat']
 omega
theorem xT {x : Nat} (h : x ≠ 0) : txt x = ((dec x).map byt).reverse := if_neg h
theorem kS {x : Nat} (h : x ≠ 0) : (txt x).length = (dec x).length := by rw [xT h]; simp
theorem KP {x : Nat} (h : x ≠ 0) : allD (txt x) := by
 intro c hc
 rw [xT h] at hc
 simp only [List.mem_reverse, List.mem_map] at hc
 obtain ⟨d, hd, rfl⟩ := hc
 have : d < 10 := Ten.zg x d hd
 rw [up this]
 omega
theorem zfu {x : Nat} (h : x ≠ 0) : dg (txt x) = dec x := by
 rw [xT h, dg, List.map_reverse, List.reverse_reverse, List.map_map]
 conv => rhs; rw [← List.map_id (dec x)]
 refine List.map_congr_left fun d hd => ?_
 have : d < 10 := Ten.zg x d hd
 simp only [Function.comp, up this, id]
 omega
theorem zda {x : Nat} (h : x ≠ 0) : numD (txt x) = x := by
 rw [← QL, zfu h]
 exact Ten.zi x
theorem y7 {x : Nat} (h : x ≠ 0) : (txt x).getD 0 0 ≠ 48 ∧ (txt x).getD 0 0 ≠ 45 := by
 have hl := J0 h
 have ht := KZ hl
 have hlt := dec_lt x ((dec x).length - 1)
 have e : (txt x).getD 0 0 = byt ((dec x).getD ((dec x).length - 1) 0) := by
  rw [xT h]
  simp only [List.getD_eq_getElem?_getD]
  rw [List.getElem?_reverse (by simpa using hl)]
  simp [List.getElem?_eq_getElem (show (dec x).length - 1 < (dec x).length by omega)]
 rw [e]
 have hb := up hlt
 constructor
 ·intro h2
  rw [h2] at hb
  have : (48 : UInt8).toNat = 48 := rfl
  omega
 ·intro h2
  rw [h2] at hb
  have : (45 : UInt8).toNat = 45 := rfl
  omega
theorem Vs {x : Nat} (h : x ≠ 0) : txt x ≠ [] := by
 intro h2
 have := kS h
 rw [h2] at this
 have := J0 h
 simp at *; omega
theorem Qf {x : Nat} (h : x ≠ 0) (neg : Bool) : parse (sgn neg (txt x)) = (neg, txt x) := by
 cases neg with
 | true => rfl
 | false =>
  simp only [sgn, Bool.false_eq_true, if_false]
  have h1 := (y7 h).2
  cases ht : txt x with
  | nil => exact absurd ht (Vs h)
  | cons c b =>
   rw [ht] at h1
   have : c ≠ 45 := h1
   simp [parse, this]
theorem WC {x : Nat} (h : x ≠ 0) (neg : Bool) : zU neg (txt x) = true := by
 have h1 := (y7 h).1
 have h2 : txt x ≠ [48] := by
  intro h2
  rw [h2] at h1
  exact h1 rfl
 have h3 := Vs h
 have h4 : (txt x).all isD = true := Ky.2 (KP h)
 simp only [List.getD_eq_getElem?_getD] at h1
 simp [zU, h3, h2, h1, h4]
theorem ua {neg : Bool} {x : Nat} (h : (wr neg x).2 = 0) : errI (wr neg x).1 = 0 ∧ numI (wr neg x).1 = x ∧ negI (wr neg x).1 = (neg && decide (x ≠ 0)) := by
 unfold wr at h ⊢
 by_cases h0 : x = 0
 ·subst h0
  simp only [if_true]
  refine ⟨rfl, rfl, ?_⟩
  simp [negI, parse]
 ·rw [if_neg h0] at h ⊢
  by_cases h1 : 1000 < (dec x).length
  ·rw [if_pos h1] at h; cases h
  ·rw [if_neg h1]
   simp only [errI, numI, negI, Qf h0, WC h0, if_true]
   rw [kS h0, if_neg h1]
   exact ⟨rfl, zda h0, by simp [h0]⟩
theorem QQ (neg : Bool) (x : Nat) : (wr neg x).2 = 0 ∨ wr neg x = ([], 14) := by
 unfold wr
 split
 ·exact .inl rfl
 ·split
  ·exact .inr rfl
  ·exact .inl rfl
theorem Ks (neg : Bool) (b : List UInt8) : (sgn neg b).length ≤ b.length + 1 := by
 unfold sgn; split <;> simp
theorem j9 (neg : Bool) (x : Nat) : (wr neg x).1.length ≤ 1001 := by
 unfold wr
 split
 ·simp
 ·rename_i h0
  split
  ·simp
  ·rename_i h1
   have := Ks neg (txt x)
   rw [kS h0] at this
   simp only
   omega
theorem uB (s t : List UInt8) : (addI s t).1.length ≤ 1001 := by
 unfold addI
 split
 ·exact j9 _ _
 ·simp
theorem Uw (s t : List UInt8) : (subI s t).1.length ≤ 1001 := by
 unfold subI
 split
 ·exact j9 _ _
 ·simp
theorem qQ (s t : List UInt8) : (mulI s t).1.length ≤ 1001 := by
 unfold mulI
 split
 ·exact j9 _ _
 ·simp
theorem KW (b : Bool) (x : Nat) : wr (b && decide (0 < x)) x = wr b x := by
 unfold wr
 by_cases h : x = 0
 ·rw [if_pos h, if_pos h]
 ·rw [if_neg h, if_neg h]
  have : decide (0 < x) = true := decide_eq_true (Nat.pos_of_ne_zero h)
  rw [this, Bool.and_true]
theorem QB (m : Bool) (x : Nat) (n : Bool) : sumS m x n 0 = (m, x) := by
 unfold sumS
 split
 ·rfl
 ·simp
theorem XB (m : Bool) (x : Nat) (n : Bool) (y : Nat) : sumS m x (n && decide (0 < y)) y = sumS m x n y := by
 by_cases h : y = 0
 ·subst h; rw [QB, QB]
 ·have : decide (0 < y) = true := decide_eq_true (Nat.pos_of_ne_zero h)
  rw [this, Bool.and_true]
theorem Xd (m : Bool) (x : Nat) (n : Bool) (y : Nat) : (sumS m x n y).2 ≤ x + y := by
 unfold sumS
 split
 ·exact Nat.le_refl _
 ·split
  ·simp only; omega
  ·simp only; omega
end Go.Nov
end

/- The integers: addition of magnitudes. -/
section
set_option maxRecDepth 100000
open Go Go.Sx Go.Proofs Go.Nov
namespace Go.Proofs.Tryz
attribute [local simp] eqKV eqA eqA0 eqH eqB eqL eqL0
noncomputable def K106 : List Go.Sx.Item := [.code (Tryz.f106.body.getD .skip)]
def Kk : Ctr := ctr2 true (fun x y => (canon x).length < 100000 ∧ (canon y).length < 100000) (fun x y d => d = x + y) (fun _ _ d => (magS d, []))
def SPl (x y : Nat) (o : List Nat) (c i : Nat) : KV := [(1, magS y), (5, .osl 0 1 0 o.length), (6, .int .u32 (c : Int)), (21, magS x), (22, .int .i64 ((canon x).length : Int)), (23, .int .i64 (i : Int))]
structure IPl (x y : Nat) where
 o : List Nat
 c : Nat
 i : Nat
 len : o.length = i
 le : i ≤ (canon x).length
 dg : dig o
 c1 : c ≤ 1
 eq : val o + B ^ i * c = val ((canon x).take i) + val ((canon y).take i)
theorem zfi {x y o c i d c' : Nat} {l m : List Nat} (h : o + B ^ i * c = val (l.take i) + val (m.take i)) (he : d + B * c' = l.getD i 0 + m.getD i 0 + c) : o + B ^ i * d + B ^ (i + 1) * c' = val (l.take (i + 1)) + val (m.take (i + 1)) := by
 rw [zh, zh, Nat.pow_succ]
 have := congrArg (B ^ i * ·) he
 simp only [Nat.mul_add] at this
 rw [Nat.mul_assoc]
 omega
theorem RetR.zgm {ctr : Ctr} {Q : AV × Heap → Prop} {h : Heap} {i m n : Nat} {k : IntKind} {l : List Nat} {G : Nat → Nat → AV} (hq : Q (natS k l, [])) (hb : h[i]? = some (.arr m 1 G)) (hn : n ≤ m) (hl : l.length = n) (hG : ∀ j, j < n → G j 0 = .int k ((l.getD j 0 : Nat) : Int)) : RetR ctr 0 Q [.osl i 1 0 n] h := by
 refine RetR.out0 hq (fun _ => ?_) ?_
 ·refine Z4 hb (by omega) fun j o hj ho => ?_
  have : o = 0 := by omega
  subst this
  simp only [zj, Nat.zero_add, hG j hj, zO]
 ·have e : exp2 h [] (resV [.osl i 1 0 n]) = exp0 h [] (.osl i 1 0 n) := rfl
  rw [e, ke hb (by omega), Xl]
  simp only [eqA2, natS]
  refine ⟨hl.symm, rfl, fun j o hj ho => ?_⟩
  have : o = 0 := by omega
  subst this
  rw [hG j hj]; rfl
theorem W7 {O : Nat → Prop} {w0 : World} {Q : AV × Heap → Prop} (x y : Nat) (hx : (canon x).length < 100000) (hlen : (canon y).length ≤ (canon x).length) (hq : Q (magS (x + y), [])) (kv : KV) (h : Heap) (hle : LeK 0 Tryz.f106.ntmps kv h (SPl x y [] 0 0) [.arr 0 1 (natG .u32 [])]) :
  zb Tryz.prog Tryz.f106 O 0 w0 [] (fun _ _ _ => False) (RetR Kk 0 Q) (.code (.loop (lps K106 0).1) :: (lps K106 0).2) (mk Tryz.f106.ntmps kv h) := by
 refine zb.loop (ι := IPl x y) (fun s => SPl x y s.o s.c s.i) (fun s => [.arr s.o.length 1 (natG .u32 s.o)]) (fun s => (canon x).length - s.i) ⟨[], 0, 0, rfl, Nat.zero_le _, by simp [dig], by omega, by simp [val]⟩ 0 hle ?_ (by kernel_rfl)
 rintro ⟨o, c, i, ho, hle, hd, hc, he⟩
 subst ho
 have hB : B = 1000000000 := rfl
 refine zb.run hmix x8 [1, 5, 6, 21, 22, 23] 400 (T := .ite (decide ((↑o.length : Int) < (↑(canon x).length : Int))) (.side ((0 : Int) ≤ o.length ∧ (↑o.length : Int) < (↑(canon x).length : Int)) (.side (inR .u32 ((↑(List.getD (canon x) (Int.toNat (↑o.length : Int)) 0) : Int) + c)) (.ite (decide ((↑o.length : Int) < (↑(canon y).length : Int))) (.side ((0 : Int) ≤ o.length ∧ (↑o.length : Int) < (↑(canon y).length : Int)) (.side (inR .u32 ((↑(List.getD (canon x) (Int.toNat (↑o.length : Int)) 0) : Int) + c + (↑(List.getD (canon y) (Int.toNat (↑o.length : Int)) 0) : Int))) (.side ((1000000000 : Int) ≠ 0 ∧ inR .u32 (Int.tdiv ((↑(List.getD (canon x) (Int.toNat (↑o.length : Int)) 0) : Int) + c + (↑(List.getD (canon y) (Int.toNat (↑o.length : Int)) 0) : Int)) (1000000000 : Int))) (.side ((1000000000 : Int) ≠ 0) (.side (0 = 0 ∧ o.length ≤ o.length ∧ (o.length + 1) * 4 ≤ 140737488355328) (.side (inR .i64 ((↑o.length : Int) + (1 : Int))) (.leaf (.back 0 [(1, .sl (canon y).length 1 (natG .u32 (canon y))), (5, .osl 0 1 0 (o.length + 1)), (6, .int .u32 (Int.tdiv ((↑(List.getD (canon x) (Int.toNat (↑o.length : Int)) 0) : Int) + c + (↑(List.getD (canon y) (Int.toNat (↑o.length : Int)) 0) : Int)) (1000000000 : Int))), (21, .sl (canon x).length 1 (natG .u32 (canon x))), (22, .int .i64 (↑(canon x).length : Int)), (23, .int .i64 ((↑o.length : Int) + (1 : Int)))] [.arr (o.length + 1) 1 (appG o.length (natG .u32 o) (zj (zk 1 [.int .u32 (Int.tmod ((↑(List.getD (canon x) (Int.toNat (↑o.length : Int)) 0) : Int) + c + (↑(List.getD (canon y) (Int.toNat (↑o.length : Int)) 0) : Int)) (1000000000 : Int))]) 0)), .arr 1 1 (zk 1 [.int .u32 (Int.tmod ((↑(List.getD (canon x) (Int.toNat (↑o.length : Int)) 0) : Int) + c + (↑(List.getD (canon y) (Int.toNat (↑o.length : Int)) 0) : Int)) (1000000000 : Int))])])))))))) (.side ((1000000000 : Int) ≠ 0 ∧ inR .u32 (Int.tdiv ((↑(List.getD (canon x) (Int.toNat (↑o.length : Int)) 0) : Int) + c) (1000000000 : Int))) (.side ((1000000000 : Int) ≠ 0) (.side (0 = 0 ∧ o.length ≤ o.length ∧ (o.length + 1) * 4 ≤ 140737488355328) (.side (inR .i64 ((↑o.length : Int) + (1 : Int))) (.leaf (.back 0 [(1, .sl (canon y).length 1 (natG .u32 (canon y))), (5, .osl 0 1 0 (o.length + 1)), (6, .int .u32 (Int.tdiv ((↑(List.getD (canon x) (Int.toNat (↑o.length : Int)) 0) : Int) + c) (1000000000 : Int))), (21, .sl (canon x).length 1 (natG .u32 (canon x))), (22, .int .i64 (↑(canon x).length : Int)), (23, .int .i64 ((↑o.length : Int) + (1 : Int)))] [.arr (o.length + 1) 1 (appG o.length (natG .u32 o) (zj (zk 1 [.int .u32 (Int.tmod ((↑(List.getD (canon x) (Int.toNat (↑o.length : Int)) 0) : Int) + c) (1000000000 : Int))]) 0)), .arr 1 1 (zk 1 [.int .u32 (Int.tmod ((↑(List.getD (canon x) (Int.toNat (↑o.length : Int)) 0) : Int) + c) (1000000000 : Int))])]))))))))) (.side (0 = 0 ∧ o.length ≤ o.length ∧ (o.length + 1) * 4 ≤ 140737488355328) (.ex (fun (u : List Nat) => u.length = o.length + 1 ∧ 0 + (o.length + 1) ≤ o.length + 1 ∧ o.length + 1 < 4611686018427387904 ∧ eqG (o.length + 1) 1 (appG o.length (natG .u32 o) (zj (zk 1 [AV.int .u32 c]) 0)) (natG .u32 u) ∧ dig (List.take (o.length + 1) (List.drop 0 u))) fun n => .all (fun (x : Nat) => x = val (List.take (o.length + 1) (List.drop 0 n))) fun n => .leaf (.ret [.osl 0 1 0 (canon n).length] [.arr (o.length + 1) 1 (appG o.length (natG .u32 o) (zj (zk 1 [.int .u32 c]) 0)), .arr 1 1 (zk 1 [.int .u32 c])])))) (by kernel_rfl) ?_
 simp only [Tree.holds, zd, inR, lo, hi, Int.toNat_natCast, kT]
 have ha := zz (zg x) o.length
 have hb := zz (zg y) o.length
 have hnext : ∀ d c' : Nat, d < B → c' ≤ 1 → o.length < (canon x).length → d + B * c' = (canon x).getD o.length 0 + (canon y).getD o.length 0 + c →
   ∃ s : IPl x y, s.o = o ++ [d] ∧ s.c = c' ∧ s.i = o.length + 1 := fun d c' h1 h2 h3 h4 =>
  ⟨⟨o ++ [d], c', o.length + 1, by simp, h3, zR.2 ⟨hd, by simp [dig, h1]⟩, h2, by rw [ZC]; exact zfi (x := x) (y := y) he h4⟩, rfl, rfl, rfl⟩
 have hdiv : ∀ v : Nat, (v : Int).tdiv 1000000000 = ((v / B : Nat) : Int) ∧ (v : Int).tmod 1000000000 = ((v % B : Nat) : Int) := fun v => ⟨rfl, rfl⟩
 have hq2 : ∀ v : Nat, v < 2 * B → v / B ≤ 1 ∧ v % B < B ∧ v % B + B * (v / B) = v := fun v hv => ⟨by have := Nat.div_lt_of_lt_mul (show v < B * 2 by omega); omega, Nat.mod_lt _ (by omega), Nat.mod_add_div _ _⟩
 refine ⟨fun hlt => ?_, fun hge => ?_⟩
 ·have hlt : o.length < (canon x).length := by have := of_decide_eq_true hlt; omega
  refine ⟨by omega, fun _ => ⟨by omega, fun _ => ⟨fun hb2 => ?_, fun hb2 => ?_⟩⟩⟩
  ·have hb2 : o.length < (canon y).length := by have := of_decide_eq_true hb2; omega
   refine ⟨by omega, fun _ => ⟨by omega, fun _ => ?_⟩⟩
   obtain ⟨v, hv⟩ : ∃ v, (canon x).getD o.length 0 + c + (canon y).getD o.length 0 = v := ⟨_, rfl⟩
   have ev : (((canon x).getD o.length 0 : Nat) : Int) + (c : Int) + (((canon y).getD o.length 0 : Nat) : Int) = (v : Int) := by omega
   rw [ev, (hdiv v).1, (hdiv v).2]
   obtain ⟨g1, g2, g3⟩ := hq2 v (by omega)
   generalize v / B = q at g1 g3 ⊢
   generalize v % B = r at g2 g3 ⊢
   refine ⟨⟨by decide, by omega, by omega⟩, fun _ => ⟨by decide, fun _ => ⟨⟨trivial, Nat.le_refl _, by omega⟩, fun _ => ⟨by omega, fun _ => ?_⟩⟩⟩⟩
   obtain ⟨s, h1, h2, h3⟩ := hnext r q g2 g1 hlt (by omega)
   rw [if_pos trivial]
   exact ⟨s, by show _ - s.i < _; omega, by simp [SPl, h1, h2, h3, magS, natS, za], by rw [h1]; exact qy rfl, by kernel_rfl, Nat.zero_le _⟩
  ·have hb2 : (canon y).length ≤ o.length := by have := of_decide_eq_false hb2; omega
   have hb0 : (canon y).getD o.length 0 = 0 := by simp [List.getD, List.getElem?_eq_none hb2]
   obtain ⟨v, hv⟩ : ∃ v, (canon x).getD o.length 0 + c = v := ⟨_, rfl⟩
   have ev : (((canon x).getD o.length 0 : Nat) : Int) + (c : Int) = (v : Int) := by omega
   rw [ev, (hdiv v).1, (hdiv v).2]
   obtain ⟨g1, g2, g3⟩ := hq2 v (by omega)
   generalize v / B = q at g1 g3 ⊢
   generalize v % B = r at g2 g3 ⊢
   refine ⟨⟨by decide, by omega, by omega⟩, fun _ => ⟨by decide, fun _ => ⟨⟨trivial, Nat.le_refl _, by omega⟩, fun _ => ⟨by omega, fun _ => ?_⟩⟩⟩⟩
   obtain ⟨s, h1, h2, h3⟩ := hnext r q g2 g1 hlt (by omega)
   rw [if_pos trivial]
   exact ⟨s, by show _ - s.i < _; omega, by simp [SPl, h1, h2, h3, magS, natS, za], by rw [h1]; exact qy rfl, by kernel_rfl, Nat.zero_le _⟩
 ·have hge : o.length = (canon x).length := by have := of_decide_eq_false hge; omega
  have hv : val (o ++ [c]) = x + y := by
   rw [ZC]
   rw [hge, List.take_length, List.take_of_length_le hlen, zi, zi] at he
   rw [hge]; exact he
  have hdo : dig (o ++ [c]) := zR.2 ⟨hd, by simp [dig]; omega⟩
  have hpush : eqG (o.length + 1) 1 (appG o.length (natG .u32 o) (zj (zk 1 [.int .u32 (c : Int)]) 0)) (natG .u32 (o ++ [c])) := by
   have := xU (k := .u32) (l := o) (v := (c : Int)) (by omega)
   simpa using this
  have hall : List.take (o.length + 1) (List.drop 0 (o ++ [c])) = o ++ [c] := by rw [List.drop_zero]; exact List.take_of_length_le (by simp)
  refine ⟨⟨trivial, Nat.le_refl _, by omega⟩, fun _ => ⟨o ++ [c], ⟨by simp, by omega, by omega, hpush, by rw [hall]; exact hdo⟩, ⟨_, rfl⟩, ?_⟩⟩
  intro X hX
  have hX : X = x + y := by rw [hX, hall, hv]
  subst hX
  have htr : qr (o ++ [c]) = canon (x + y) := by rw [zB hdo, hv]
  have htl : (canon (x + y)).length = tlen (o ++ [c]) := by rw [← htr, qr, List.length_take]; have := zJ (o ++ [c]); omega
  rw [htl]
  have hle2 := zJ (o ++ [c])
  have hln : (o ++ [c]).length = o.length + 1 := by simp
  refine RetR.zgm (l := canon (x + y)) (k := .u32) hq rfl (by omega) htl fun j hj => ?_
  have := hpush j 0 (by omega) (by omega)
  rw [this, ← htr]
  simp only [natG, qr]
  rw [xB hj]
theorem Xp : zc Tryz.prog 106 Kk := by
 refine ym (fn := Tryz.f106) (c := Tryz.f106.body.getD .skip) rfl rfl rfl fun x y hp O w0 Q hq => ?_
 replace hq := hq _ rfl
 obtain ⟨hx, hy⟩ := hp
 refine zb.run hmix x8 [1, 5, 6, 21, 22, 23] 400 (T := .ite (decide ((↑(canon x).length : Int) < (↑(canon y).length : Int))) (.side (inR .i64 ((↑(canon y).length : Int) + (1 : Int))) (.side ((0 : Int) ≤ 0 ∧ (0 : Int) ≤ (↑(canon y).length : Int) + (1 : Int) ∧ inR .i64 ((↑(canon y).length : Int) + (1 : Int)) ∧ Int.toNat ((↑(canon y).length : Int) + (1 : Int)) * 4 ≤ 140737488355328) (.leaf (.loop (Prod.fst (lps K106 0)) (Prod.snd (lps K106 0)) [(1, .sl (canon x).length 1 (natG .u32 (canon x))), (5, .osl 0 1 0 0), (6, .int .u32 0), (21, .sl (canon y).length 1 (natG .u32 (canon y))), (22, .int .i64 (↑(canon y).length : Int)), (23, .int .i64 0)] [.arr 0 1 (wU [.int .u32 0])])))) (.side (inR .i64 ((↑(canon x).length : Int) + (1 : Int))) (.side ((0 : Int) ≤ 0 ∧ (0 : Int) ≤ (↑(canon x).length : Int) + (1 : Int) ∧ inR .i64 ((↑(canon x).length : Int) + (1 : Int)) ∧ Int.toNat ((↑(canon x).length : Int) + (1 : Int)) * 4 ≤ 140737488355328) (.leaf (.loop (Prod.fst (lps K106 0)) (Prod.snd (lps K106 0)) [(1, .sl (canon y).length 1 (natG .u32 (canon y))), (5, .osl 0 1 0 0), (6, .int .u32 0), (21, .sl (canon x).length 1 (natG .u32 (canon x))), (22, .int .i64 (↑(canon x).length : Int)), (23, .int .i64 0)] [.arr 0 1 (wU [.int .u32 0])]))))) (by kernel_rfl) ?_
 simp only [Tree.holds, zd, inR, lo, hi]
 refine ⟨fun h => ?_, fun h => ?_⟩
 ·have h : (canon x).length < (canon y).length := by have := of_decide_eq_true h; omega
  refine ⟨by omega, fun _ => ⟨⟨by omega, by omega, by omega, by omega⟩, fun _ => ?_⟩⟩
  rw [Nat.add_comm] at hq
  exact W7 y x hy (by omega) hq _ _ ⟨by simp [SPl, magS, natS, za], by simp [eqG], by kernel_rfl, Nat.zero_le _⟩
 ·have h : (canon y).length ≤ (canon x).length := by have := of_decide_eq_false h; omega
  refine ⟨by omega, fun _ => ⟨⟨by omega, by omega, by omega, by omega⟩, fun _ => ?_⟩⟩
  exact W7 x y hx h hq _ _ ⟨by simp [SPl, magS, natS, za], by simp [eqG], by kernel_rfl, Nat.zero_le _⟩
end Go.Proofs.Tryz
end
