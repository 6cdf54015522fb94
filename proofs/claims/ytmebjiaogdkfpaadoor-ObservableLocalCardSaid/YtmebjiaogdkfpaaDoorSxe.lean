/- Part 5 of the proof. -/
import Derived.Test.YtmebjiaogdkfpaaDoorSxa
import Derived.Test.YtmebjiaogdkfpaaDoorSxd
import Derived.Lib.Strings
import Derived.Lib.Slices
import Derived.Lib.Walk
import Derived.Lib.Bytealg
import Derived.Test.YtmebjiaogdkfpaaDoorProg
set_option linter.unusedVariables false
set_option linter.unusedSimpArgs false
set_option linter.unusedSectionVars false

/- The integers' magnitudes: long division. -/
section
set_option maxRecDepth 100000
open Go Go.Sx Go.Proofs Go.Nov
namespace Go.Proofs.Tryd
attribute [local simp] eqKV eqA eqA0 eqH eqB eqL eqL0
noncomputable def K73 : List Go.Sx.Item := [.code (Tryd.f73.body.getD .skip)]
noncomputable def G2 : Nat → Option Ctr := fun f => if f = 85 then some (xA) else if f = 86 then some (XG) else if f = 87 then some (yr) else if f = 88 then some (V7) else if f = 89 then some (U8) else if f = 90 then some (QQ) else none
theorem Wz : ∀ g c, G2 g = some c → zb Tryd.prog g c := okIf kV (okIf XQ (okIf QA (okIf JQ (okIf Y2 (okIf uc (zn))))))
theorem jk {k : IntKind} {u : List Nat} {off n X : Nat} (hd : dig ((u.drop off).take n)) (hX : val ((u.drop off).take n) = X) : eqG (canon X).length 1 (zg (natG k u) off) (natG k (canon X)) := by
 have h := zF hd
 rw [hX] at h
 have hl := zT ((u.drop off).take n)
 intro j o hj ho
 simp only [zg, natG, AV.int.injEq, true_and]
 rw [← h] at hj ⊢
 simp only [qp, List.length_take] at hj ⊢
 have hjn : j < n := by simp at hj hl; omega
 have e : (List.take (tlen ((u.drop off).take n)) ((u.drop off).take n)).getD j 0 = ((u.drop off).take n).getD j 0 := by
  simp only [List.getD, List.getElem?_take]
  rw [if_pos (by omega)]
 rw [e, k6 _ _ _ _ hjn]
theorem k5 (k : IntKind) (n : Nat) : eqG 1 1 (zj 1 [.int k (n : Int)]) (natG k [n]) := by
 intro j o hj ho
 have : j = 0 := by omega
 have : o = 0 := by omega
 subst_vars; rfl
theorem XC {k : IntKind} {n : Nat} {g : Nat → Nat → AV} {u : List Nat} {off m : Nat} (h : eqG m 1 g (natG k u)) (hm : off + n ≤ m) : eqG n 1 (zg g off) (zg (natG k u) off) := by
 intro j o hj ho
 exact h (off + j) o (by omega) ho
theorem xM {n sz : Nat} {f g h : Nat → Nat → AV} (h1 : eqG n sz f g) (h2 : eqG n sz g h) : eqG n sz f h := fun j o hj ho => (h1 j o hj ho).trans (h2 j o hj ho)
theorem jO {d : Nat} (hd : d < B) : eqG (canon d).length 1 (zg (zj 1 [.int .u32 (d : Int)]) 0) (natG .u32 (canon d)) := by
 have h1 : dig (([d].drop 0).take 1) := by simpa [dig] using hd
 have h2 : val (([d].drop 0).take 1) = d := by simp [val]
 have h3 := jk (k := .u32) h1 h2
 refine xM (XC (k5 .u32 d) ?_) h3
 have := zr (x := d) (n := 1) (by simpa using hd)
 omega
theorem xp {N p : Nat} (hN : (canon p).length ≤ N) : eqG (canon p).length 1 (zg (natG .u32 (padN N p)) 0) (natG .u32 (canon p)) := by
 intro j o hj ho
 simp only [zg, natG, Nat.zero_add, padN, AV.int.injEq, true_and]
 congr 1
 simp only [List.getD]
 rw [List.getElem?_append_left hj]
theorem XY (N p i : Nat) : (padN N p).getD i 0 = (canon p).getD i 0 := by
 simp only [padN, List.getD]
 by_cases h : i < (canon p).length
 ·rw [List.getElem?_append_left h]
 ·rw [List.getElem?_append_right (by omega), List.getElem?_eq_none (show (canon p).length ≤ i by omega)]
  cases hh : (List.replicate (N - (canon p).length) 0)[i - (canon p).length]? with
  | none => rfl
  | some z => have := List.mem_of_getElem? hh; simp at this; simp [this.2]
theorem Q7 {N p : Nat} (h : (canon p).length ≤ N) : (padN N p).length = N := by simp [padN]; omega
theorem za5 (N p : Nat) : dig (padN N p) := qJ.2 ⟨zf _, qD _⟩
theorem kH (x y : Nat) : (canon (x * y)).length ≤ (canon x).length + (canon y).length := by
 have h1 := zW (zf x)
 have h2 := zW (zf y)
 rw [zh] at h1 h2
 exact zr (by rw [Nat.pow_add]; exact Nat.mul_lt_mul'' h1 h2)
theorem Zr {d : Nat} (h0 : 0 < d) (hB : d < B) : (canon d).length = 1 := by
 have h1 := zr (x := d) (n := 1) (by simpa using hB)
 have h2 := jh (x := d) (n := 0) (by simp; omega)
 omega
def xd : Ctr := ctr2 false (fun x y => (canon x).length < 100000 ∧ (canon y).length < 100000 ∧ 0 < y) (fun x y (r : Nat × Nat) => r = (x / y, x % y)) (fun _ _ r => (.tup [magS r.1, magS r.2], []))
def SG (x y s k : Nat) : KV := [(0, magS x), (1, magS y), (4, .nils), (8, .int .u32 (s : Int)), (9, .int .i64 (((canon y).length : Nat) : Int)), (10, .osl 1 1 0 k), (11, .undef), (12, .undef), (13, .undef), (15, .undef), (151, .undef), (152, .undef)]
structure IG (x U : Nat) where
 k : Nat
 o : List Nat
 ko : k ≤ o.length
 le : o.length ≤ (canon x).length + 1
 dg : dig (o.take k)
 eq : val (o.take k) = U
def SD (y s V ul ql j : Nat) : KV := [(0, .undef), (1, .undef), (4, .osl 4 1 0 ql), (8, .int .u32 (s : Int)), (9, .int .i64 (((canon y).length : Nat) : Int)), (10, .osl 1 1 0 ul), (11, .osl 3 1 0 (canon V).length), (12, .int .i64 ((j : Int) - 1)), (13, .undef), (15, .undef), (151, .undef), (152, .undef)]
def HD (y V : Nat) (u q : List Nat) : Heap := [.dead, .arr u.length 1 (natG .u32 u), .dead, .arr ((canon y).length + 1) 1 (natG .u32 (padN ((canon y).length + 1) V)), .arr q.length 1 (natG .u32 q)]
structure ID (x y V U : Nat) where
 u : List Nat
 q : List Nat
 j : Nat
 ul : u.length = (canon x).length + 1
 ql : q.length + (canon y).length = (canon x).length + 1
 jq : j ≤ q.length
 du : dig u
 dq : dig q
 eq : U = V * B ^ j * val (q.drop j) + val u
 lt : val u < V * B ^ j
def SC (y s V ul ql j d L i : Nat) : KV := [(0, .undef), (1, .undef), (4, .osl 4 1 0 ql), (8, .int .u32 (s : Int)), (9, .int .i64 (((canon y).length : Nat) : Int)), (10, .osl 1 1 0 ul), (11, .osl 3 1 0 (canon V).length), (12, .int .i64 (j : Int)), (13, .int .u64 (d : Int)), (15, magS L), (151, .int .i64 (((canon y).length + 1 : Nat) : Int)), (152, .int .i64 (i : Int))]
theorem JI {x y s V U m i : Nat} {u q : List Nat} {O : Nat → Prop} {w0 : World} {Q : AV × Heap → Prop} {Hs0 : Nat → KV → Heap → Prop} (hm : (canon y).length = m + 2) (hx : (canon x).length < 100000) (hs0 : 0 < s) (hsB : s < B) (hV1 : V < B ^ (m + 2)) (hV2 : B ^ (m + 2) ≤ 2 * V) (hVl : (canon V).length = m + 2) (hV0 : 0 < V)
  (hul : u.length = (canon x).length + 1) (hql : q.length + (canon y).length = (canon x).length + 1) (hjq : i + 1 ≤ q.length) (hdu : dig u) (hdq : dig q) (heq : U = V * B ^ (i + 1) * val (q.drop (i + 1)) + val u) (hlt : val u < V * B ^ (i + 1)) {W : Nat} (hW : val ((u.drop i).take (m + 2 + 1)) = W) (hWB : W / V < B) (kv : KV) (h : Heap) (hle : LeK 0 Tryd.f73.ntmps kv h (SC y s V u.length q.length i (W / V) (W % V) 0) (HD y V u q)) :
  zc Tryd.prog Tryd.f73 O 0 w0 [] (fun d kv h => if d = 0 then ∃ x' : ID x y V U, x'.j < i + 1 ∧ LeK 0 Tryd.f73.ntmps kv h (SD y s V x'.u.length x'.q.length x'.j) (HD y V x'.u x'.q) else Hs0 d kv h) (RetR xd 0 Q)
   (.code (.loop (lps (inside (inside K73 0) 0) 0).1) :: (lps (inside (inside K73 0) 0) 0).2) (mk Tryd.f73.ntmps kv h) := by
 have hB : B = 1000000000 := rfl
 have c2 : 0 + (i : Int).toNat = i := by omega
 have hLV := Nat.mod_lt W hV0
 have hLl : (canon (W % V)).length ≤ m + 2 := zr (by omega)
 refine zc.loop (ι := {k : Nat // k ≤ m + 2 + 1}) (fun k => SC y s V u.length q.length i (W / V) (W % V) k.1) (fun k => HD y V (mixL u (canon (W % V)) i k.1) q) (fun k => m + 2 + 1 - k.1) ⟨0, Nat.zero_le _⟩ 1 ?_ ?_ (by kernel_rfl)
 ·simpa only [KC] using hle
 ·rintro ⟨k, hk⟩
  obtain ⟨L, hL⟩ : ∃ L, W % V = L := ⟨_, rfl⟩
  obtain ⟨d, hd⟩ : ∃ d, W / V = d := ⟨_, rfl⟩
  simp only [hL, hd]
  obtain ⟨u', hu'⟩ : ∃ u', mixL u (canon L) i k = u' := ⟨_, rfl⟩
  have hu'l : u'.length = u.length := by rw [← hu', JX]
  simp only [hu', ← hu'l]
  rw [hL] at hLl hLV
  refine zc.run hmix Wz [0, 1, 4, 8, 9, 10, 11, 12, 13, 15, 151, 152] 400 (T := .ite (decide ((↑k : Int) < (↑(List.length (canon y) + 1) : Int))) (.side (inR .i64 ((↑i : Int) + k)) (.side ((0 : Int) ≤ i + (↑k : Int) ∧ (↑i : Int) + k < (↑(List.length u') : Int)) (.ite (decide ((↑k : Int) < (↑(List.length (canon L)) : Int))) (.side (inR .i64 ((↑i : Int) + k)) (.side ((0 : Int) ≤ k ∧ (↑k : Int) < (↑(List.length (canon L)) : Int)) (.side ((0 : Int) ≤ i + (↑k : Int) ∧ (↑i : Int) + k < (↑(List.length u') : Int)) (.side (inR .i64 ((↑k : Int) + (1 : Int))) (.leaf (.back 1 [(0, .undef), (1, .undef), (4, .osl 4 1 0 q.length), (8, .int .u32 s), (9, .int .i64 (↑(canon y).length : Int)), (10, .osl 1 1 0 (List.length u')), (11, .osl 3 1 0 (List.length (canon V))), (12, .int .i64 i), (13, .int .u64 d), (15, .sl (List.length (canon L)) 1 (natG .u32 (canon L))), (151, .int .i64 (↑(List.length (canon y) + 1) : Int)), (152, .int .i64 ((↑k : Int) + (1 : Int)))] [.dead, .arr (List.length u') 1 (updG (updG (natG .u32 u') (0 + Int.toNat ((↑i : Int) + k)) 0 [.int .u32 0]) (0 + Int.toNat ((↑i : Int) + k)) 0 [.int .u32 (↑(List.getD (canon L) (Int.toNat (↑k : Int)) 0) : Int)]), .dead, .arr (List.length (canon y) + 1) 1 (natG .u32 (padN (List.length (canon y) + 1) V)), .arr q.length 1 (natG .u32 q)])))))) (.side (inR .i64 ((↑k : Int) + (1 : Int))) (.leaf (.back 1 [(0, .undef), (1, .undef), (4, .osl 4 1 0 q.length), (8, .int .u32 s), (9, .int .i64 (↑(canon y).length : Int)), (10, .osl 1 1 0 (List.length u')), (11, .osl 3 1 0 (List.length (canon V))), (12, .int .i64 i), (13, .int .u64 d), (15, .sl (List.length (canon L)) 1 (natG .u32 (canon L))), (151, .int .i64 (↑(List.length (canon y) + 1) : Int)), (152, .int .i64 ((↑k : Int) + (1 : Int)))] [.dead, .arr (List.length u') 1 (updG (natG .u32 u') (0 + Int.toNat ((↑i : Int) + k)) 0 [.int .u32 0]), .dead, .arr (List.length (canon y) + 1) 1 (natG .u32 (padN (List.length (canon y) + 1) V)), .arr q.length 1 (natG .u32 q)])))))) (.side (inR .u32 (↑d : Int)) (.side ((0 : Int) ≤ i ∧ (↑i : Int) < q.length) (.side (inR .i64 ((↑i : Int) - (1 : Int))) (.leaf (.back 0 [(0, .undef), (1, .undef), (4, .osl 4 1 0 q.length), (8, .int .u32 s), (9, .int .i64 (↑(canon y).length : Int)), (10, .osl 1 1 0 (List.length u')), (11, .osl 3 1 0 (List.length (canon V))), (12, .int .i64 ((↑i : Int) - (1 : Int))), (13, .int .u64 d), (15, .sl (List.length (canon L)) 1 (natG .u32 (canon L))), (151, .int .i64 (↑(List.length (canon y) + 1) : Int)), (152, .int .i64 k)] [.dead, .arr (List.length u') 1 (natG .u32 u'), .dead, .arr (List.length (canon y) + 1) 1 (natG .u32 (padN (List.length (canon y) + 1) V)), .arr q.length 1 (updG (natG .u32 q) (0 + Int.toNat (↑i : Int)) 0 [.int .u32 d])])))))) (by kernel_rfl) ?_
  have ek : 0 + ((i : Int) + (k : Int)).toNat = i + k := by omega
  have ek1 : ((k : Int) + 1) = ((k + 1 : Nat) : Int) := by omega
  simp only [Tree.holds, zd, inR, lo, hi, ek, ek1, c2, Int.toNat_natCast]
  refine ⟨fun hlt => ?_, fun hge => ?_⟩
  ·have hlt : k < m + 2 + 1 := by simp at hlt; omega
   have hik : i + k < u'.length := by omega
   refine ⟨by omega, fun _ => ⟨by omega, fun _ => ⟨fun hin => ?_, fun hout => ?_⟩⟩⟩
   ·have hin : k < (canon L).length := by simp at hin; omega
    iterate 4 refine ⟨by omega, fun _ => ?_⟩
    rw [if_pos trivial]
    refine ⟨⟨k + 1, by omega⟩, by show m + 2 + 1 - (k + 1) < m + 2 + 1 - k; omega, by simp [SC, magS, natS, za], ?_, by kernel_rfl, Nat.zero_le _⟩
    have hs2 := Wg u (canon L) i k 0
    rw [hu'] at hs2
    simp only [← hs2]
    refine ⟨trivial, ⟨by simp, rfl, ?_⟩, trivial, by simp [za], by simp [za], trivial⟩
    have h1 := wU (k := .u32) (l := u') (v := 0) (i := i + k) (by omega) hik
    have h2 := wU (k := .u32) (l := u'.set (i + k) 0) (v := ((canon L).getD k 0 : Nat)) (i := i + k) (by omega) (by simpa using hik)
    simp only [List.length_set, Int.toNat_natCast] at h2
    refine xM ?_ h2
    intro p o hp ho
    have := h1 p o hp ho
    simp only [updG] at this ⊢
    split
    ·rfl
    ·exact this
   ·have hout : (canon L).length ≤ k := by simp at hout; omega
    refine ⟨by omega, fun _ => ?_⟩
    rw [if_pos trivial]
    refine ⟨⟨k + 1, by omega⟩, by show m + 2 + 1 - (k + 1) < m + 2 + 1 - k; omega, by simp [SC, magS, natS, za], ?_, by kernel_rfl, Nat.zero_le _⟩
    have hs2 := Wg u (canon L) i k 0
    rw [hu'] at hs2
    have hz : (canon L).getD k 0 = 0 := by simp [List.getD, List.getElem?_eq_none hout]
    rw [hz, List.set_set] at hs2
    simp only [← hs2]
    refine ⟨trivial, ⟨by simp, rfl, ?_⟩, trivial, by simp [za], by simp [za], trivial⟩
    exact wU (k := .u32) (l := u') (v := 0) (i := i + k) (by omega) hik
  ·have hk : k = m + 2 + 1 := by simp at hge; omega
   subst hk
   have hdB : d < B := hd ▸ hWB
   iterate 3 refine ⟨by omega, fun _ => ?_⟩
   rw [if_neg (by decide), if_pos trivial]
   have hval := Y9 (u := u) (L := L) (j := i) (k := m + 2 + 1) (by omega) (by omega)
   rw [hu'] at hval
   have hst := step_eq (u := u) (u' := u') (q := q) (j := i) (k := m + 2 + 1) (V := V) (U0 := U) hdu (by omega) (by simpa using hV1) (by omega) hV0 hlt (by omega) heq (by rw [hW, hL]; exact hval)
   rw [hW, hd] at hst
   refine ⟨⟨u', q.set i d, i, by omega, by simpa using hql, by simp; omega, ?_, yD hdq _ hdB, hst.2, hst.1⟩, Nat.lt_succ_self _, by simp [SD, za], ?_, by kernel_rfl, Nat.zero_le _⟩
   ·rw [← hu']; exact UU hdu (zf _) _ _
   ·refine ⟨trivial, ⟨rfl, rfl, za _ _ _⟩, trivial, ⟨rfl, rfl, za _ _ _⟩, ⟨by simp, rfl, ?_⟩, trivial⟩
    have := wU (k := .u32) (l := q) (v := (d : Int)) (i := i) (by omega) (by omega)
    simpa using this
set_option maxHeartbeats 2000000 in
theorem QV {x y s V U m i : Nat} {u q : List Nat} {O : Nat → Prop} {w0 : World} {Q : AV × Heap → Prop} {Hs0 : Nat → KV → Heap → Prop} (hm : (canon y).length = m + 2) (hx : (canon x).length < 100000) (hs0 : 0 < s) (hsB : s < B) (hV1 : V < B ^ (m + 2)) (hV2 : B ^ (m + 2) ≤ 2 * V) (hVl : (canon V).length = m + 2) (hV0 : 0 < V)
  (hul : u.length = (canon x).length + 1) (hql : q.length + (canon y).length = (canon x).length + 1) (hjq : i + 1 ≤ q.length) (hdu : dig u) (hdq : dig q) (heq : U = V * B ^ (i + 1) * val (q.drop (i + 1)) + val u) (hlt : val u < V * B ^ (i + 1)) :
  zc Tryd.prog Tryd.f73 O 0 w0 [] (fun d kv h => if d = 0 then ∃ x' : ID x y V U, x'.j < i + 1 ∧ LeK 0 Tryd.f73.ntmps kv h (SD y s V x'.u.length x'.q.length x'.j) (HD y V x'.u x'.q) else Hs0 d kv h) (RetR xd 0 Q) (inside (inside K73 0) 0) (mk Tryd.f73.ntmps (SD y s V u.length q.length (i + 1)) (HD y V u q)) := by
 have hB : B = 1000000000 := rfl
 refine zc.run hmix Wz [0, 1, 4, 8, 9, 10, 11, 12, 13, 15, 151, 152] 400 (T := .ite (decide ((0 : Int) ≤ (↑(i + 1) : Int) - (1 : Int))) (.side (inR .i64 ((↑(i + 1) : Int) - (1 : Int) + (↑(canon y).length : Int))) (.side ((0 : Int) ≤ (↑(i + 1) : Int) - (1 : Int) + (↑(canon y).length : Int) ∧ (↑(i + 1) : Int) - (1 : Int) + (↑(canon y).length : Int) < u.length) (.side (inR .u64 (↑(List.getD u (0 + Int.toNat ((↑(i + 1) : Int) - (1 : Int) + (↑(canon y).length : Int))) 0) : Int)) (.side (inR .i64 ((↑(i + 1) : Int) - (1 : Int) + (↑(canon y).length : Int))) (.side (inR .i64 ((↑(i + 1) : Int) - (1 : Int) + (↑(canon y).length : Int) - (1 : Int))) (.side ((0 : Int) ≤ (↑(i + 1) : Int) - (1 : Int) + (↑(canon y).length : Int) - (1 : Int) ∧ (↑(i + 1) : Int) - (1 : Int) + (↑(canon y).length : Int) - (1 : Int) < u.length) (.side (inR .u64 (↑(List.getD u (0 + Int.toNat ((↑(i + 1) : Int) - (1 : Int) + (↑(canon y).length : Int) - (1 : Int))) 0) : Int)) (.side (inR .i64 ((↑(i + 1) : Int) - (1 : Int) + (↑(canon y).length : Int))) (.side (inR .i64 ((↑(i + 1) : Int) - (1 : Int) + (↑(canon y).length : Int) - (2 : Int))) (.side ((0 : Int) ≤ (↑(i + 1) : Int) - (1 : Int) + (↑(canon y).length : Int) - (2 : Int) ∧ (↑(i + 1) : Int) - (1 : Int) + (↑(canon y).length : Int) - (2 : Int) < u.length) (.side (inR .u64 (↑(List.getD u (0 + Int.toNat ((↑(i + 1) : Int) - (1 : Int) + (↑(canon y).length : Int) - (2 : Int))) 0) : Int)) (.side (inR .i64 ((↑(canon y).length : Int) - (1 : Int))) (.side ((0 : Int) ≤ (↑(canon y).length : Int) - (1 : Int) ∧ (↑(canon y).length : Int) - (1 : Int) < (↑(List.length (canon V)) : Int)) (.side (inR .u64 (↑(List.getD (padN (List.length (canon y) + 1) V) (0 + Int.toNat ((↑(canon y).length : Int) - (1 : Int))) 0) : Int)) (.side (inR .i64 ((↑(canon y).length : Int) - (2 : Int))) (.side ((0 : Int) ≤ (↑(canon y).length : Int) - (2 : Int) ∧ (↑(canon y).length : Int) - (2 : Int) < (↑(List.length (canon V)) : Int)) (.side (inR .u64 (↑(List.getD (padN (List.length (canon y) + 1) V) (0 + Int.toNat ((↑(canon y).length : Int) - (2 : Int))) 0) : Int)) (.ex (fun (x : D5) => eqL [AV.int .u64 (↑(List.getD u (0 + Int.toNat ((↑(i + 1) : Int) - (1 : Int) + (↑(canon y).length : Int))) 0) : Int), AV.int .u64 (↑(List.getD u (0 + Int.toNat ((↑(i + 1) : Int) - (1 : Int) + (↑(canon y).length : Int) - (1 : Int))) 0) : Int), AV.int .u64 (↑(List.getD u (0 + Int.toNat ((↑(i + 1) : Int) - (1 : Int) + (↑(canon y).length : Int) - (2 : Int))) 0) : Int), AV.int .u64 (↑(List.getD (padN (List.length (canon y) + 1) V) (0 + Int.toNat ((↑(canon y).length : Int) - (1 : Int))) 0) : Int), AV.int .u64 (↑(List.getD (padN (List.length (canon y) + 1) V) (0 + Int.toNat ((↑(canon y).length : Int) - (2 : Int))) 0) : Int)] [AV.int .u64 (↑(D5.t x) : Int), AV.int .u64 (↑(D5.u x) : Int), AV.int .u64 (↑(D5.v x) : Int), AV.int .u64 (↑(D5.y x) : Int), AV.int .u64 (↑(D5.z x) : Int)] ∧ D5.t x ≤ D5.y x ∧ D5.u x < 1000000000 ∧ D5.v x < 1000000000 ∧ D5.y x < 1000000000 ∧ D5.z x < 1000000000 ∧ 1000000000 ≤ 2 * D5.y x) fun n => .all (fun (n_1 : Nat) => n_1 = qH (D5.v n) (D5.y n) (D5.z n) 2 ((D5.t n * 1000000000 + D5.u n) / D5.y n) ((D5.t n * 1000000000 + D5.u n) % D5.y n)) fun n => .side (inR .u32 (↑n : Int)) (.ex (fun (u : List Nat) => u.length = 1 ∧ 1 ≤ 1 ∧ 1 < 4611686018427387904 ∧ eqG 1 1 (zj 1 [AV.int .u32 n]) (natG .u32 u) ∧ dig (List.take 1 (List.drop 0 u))) fun n_1 => .all (fun (x : Nat) => x = val (List.take 1 (List.drop 0 n_1))) fun n_2 => .ex (fun (x : Nat × Nat) => eqL [AV.sl (List.length (canon V)) 1 (zg (natG .u32 (padN (List.length (canon y) + 1) V)) 0), AV.sl (canon n_2).length 1 (zg (zj 1 [AV.int .u32 n]) 0)] [AV.sl (canon x.1).length 1 (natG .u32 (canon x.1)), AV.sl (canon x.2).length 1 (natG .u32 (canon x.2))] ∧ fits x.1 ∧ fits x.2) fun n_3 => .all (fun (p : Nat) => p = n_3.1 * n_3.2) fun n_4 => .side (inR .i64 ((↑(i + 1) : Int) - (1 : Int) + (↑(canon y).length : Int))) (.side (inR .i64 ((↑(i + 1) : Int) - (1 : Int) + (↑(canon y).length : Int) + (1 : Int))) (.side ((0 : Int) ≤ (↑(i + 1) : Int) - (1 : Int) ∧ (↑(i + 1) : Int) - (1 : Int) ≤ (↑(i + 1) : Int) - (1 : Int) + (↑(canon y).length : Int) + (1 : Int) ∧ (↑(i + 1) : Int) - (1 : Int) + (↑(canon y).length : Int) + (1 : Int) ≤ u.length) (.ex (fun (u_1 : List Nat) => u_1.length = u.length ∧ 0 + Int.toNat ((↑(i + 1) : Int) - (1 : Int)) + (Int.toNat ((↑(i + 1) : Int) - (1 : Int) + (↑(canon y).length : Int) + (1 : Int)) - Int.toNat ((↑(i + 1) : Int) - (1 : Int))) ≤ u.length ∧ Int.toNat ((↑(i + 1) : Int) - (1 : Int) + (↑(canon y).length : Int) + (1 : Int)) - Int.toNat ((↑(i + 1) : Int) - (1 : Int)) < 4611686018427387904 ∧ eqG u.length 1 (natG .u32 u) (natG .u32 u_1) ∧ dig (List.take (Int.toNat ((↑(i + 1) : Int) - (1 : Int) + (↑(canon y).length : Int) + (1 : Int)) - Int.toNat ((↑(i + 1) : Int) - (1 : Int))) (List.drop (0 + Int.toNat ((↑(i + 1) : Int) - (1 : Int))) u_1))) fun n_5 => .all (fun (x : Nat) => x = val (List.take (Int.toNat ((↑(i + 1) : Int) - (1 : Int) + (↑(canon y).length : Int) + (1 : Int)) - Int.toNat ((↑(i + 1) : Int) - (1 : Int))) (List.drop (0 + Int.toNat ((↑(i + 1) : Int) - (1 : Int))) n_5))) fun n_6 => .ex (fun (x : Nat × Nat) => eqL [AV.sl (canon n_6).length 1 (zg (natG .u32 u) (0 + Int.toNat ((↑(i + 1) : Int) - (1 : Int)))), AV.sl (canon n_4).length 1 (zg (natG .u32 (padN (List.length (canon n_3.1) + List.length (canon n_3.2)) n_4)) 0)] [AV.sl (canon x.1).length 1 (natG .u32 (canon x.1)), AV.sl (canon x.2).length 1 (natG .u32 (canon x.2))] ∧ fits x.1 ∧ fits x.2) fun n_7 => .all (fun (r : Int) => r = cmp3 n_7.1 n_7.2) fun n_8 => .ite (decide (n_8 < 0)) (.side (inR .u64 ((↑n : Int) - (1 : Int))) (.side (inR .u32 ((↑n : Int) - (1 : Int))) (.ex (fun (u : List Nat) => u.length = 1 ∧ 1 ≤ 1 ∧ 1 < 4611686018427387904 ∧ eqG 1 1 (zj 1 [AV.int .u32 ((↑n : Int) - (1 : Int))]) (natG .u32 u) ∧ dig (List.take 1 (List.drop 0 u))) fun n_9 => .all (fun (x : Nat) => x = val (List.take 1 (List.drop 0 n_9))) fun n_10 => .ex (fun (x : Nat × Nat) => eqL [AV.sl (List.length (canon V)) 1 (zg (natG .u32 (padN (List.length (canon y) + 1) V)) 0), AV.sl (canon n_10).length 1 (zg (zj 1 [AV.int .u32 ((↑n : Int) - (1 : Int))]) 0)] [AV.sl (canon x.1).length 1 (natG .u32 (canon x.1)), AV.sl (canon x.2).length 1 (natG .u32 (canon x.2))] ∧ fits x.1 ∧ fits x.2) fun n_11 => .all (fun (p : Nat) => p = n_11.1 * n_11.2) fun n_12 => .side (inR .i64 ((↑(i + 1) : Int) - (1 : Int) + (↑(canon y).length : Int))) (.side (inR .i64 ((↑(i + 1) : Int) - (1 : Int) + (↑(canon y).length : Int) + (1 : Int))) (.side ((0 : Int) ≤ (↑(i + 1) : Int) - (1 : Int) ∧ (↑(i + 1) : Int) - (1 : Int) ≤ (↑(i + 1) : Int) - (1 : Int) + (↑(canon y).length : Int) + (1 : Int) ∧ (↑(i + 1) : Int) - (1 : Int) + (↑(canon y).length : Int) + (1 : Int) ≤ u.length) (.ex (fun (u_1 : List Nat) => u_1.length = u.length ∧ 0 + Int.toNat ((↑(i + 1) : Int) - (1 : Int)) + (Int.toNat ((↑(i + 1) : Int) - (1 : Int) + (↑(canon y).length : Int) + (1 : Int)) - Int.toNat ((↑(i + 1) : Int) - (1 : Int))) ≤ u.length ∧ Int.toNat ((↑(i + 1) : Int) - (1 : Int) + (↑(canon y).length : Int) + (1 : Int)) - Int.toNat ((↑(i + 1) : Int) - (1 : Int)) < 4611686018427387904 ∧ eqG u.length 1 (natG .u32 u) (natG .u32 u_1) ∧ dig (List.take (Int.toNat ((↑(i + 1) : Int) - (1 : Int) + (↑(canon y).length : Int) + (1 : Int)) - Int.toNat ((↑(i + 1) : Int) - (1 : Int))) (List.drop (0 + Int.toNat ((↑(i + 1) : Int) - (1 : Int))) u_1))) fun n_13 => .all (fun (x : Nat) => x = val (List.take (Int.toNat ((↑(i + 1) : Int) - (1 : Int) + (↑(canon y).length : Int) + (1 : Int)) - Int.toNat ((↑(i + 1) : Int) - (1 : Int))) (List.drop (0 + Int.toNat ((↑(i + 1) : Int) - (1 : Int))) n_13))) fun n_14 => .ex (fun (x : Nat × Nat) => eqL [AV.sl (canon n_14).length 1 (zg (natG .u32 u) (0 + Int.toNat ((↑(i + 1) : Int) - (1 : Int)))), AV.sl (canon n_12).length 1 (zg (natG .u32 (padN (List.length (canon n_11.1) + List.length (canon n_11.2)) n_12)) 0)] [AV.sl (canon x.1).length 1 (natG .u32 (canon x.1)), AV.sl (canon x.2).length 1 (natG .u32 (canon x.2))] ∧ fits x.1 ∧ x.2 ≤ x.1) fun n_15 => .all (fun (d : Nat) => d = n_15.1 - n_15.2) fun n_16 => .side (inR .i64 ((↑(canon y).length : Int) + (1 : Int))) (.leaf (.loop (Prod.fst (lps (inside (inside K73 0) 0) 0)) (Prod.snd (lps (inside (inside K73 0) 0) 0)) [(0, .undef), (1, .undef), (4, .osl 4 1 0 q.length), (8, .int .u32 s), (9, .int .i64 (↑(canon y).length : Int)), (10, .osl 1 1 0 u.length), (11, .osl 3 1 0 (List.length (canon V))), (12, .int .i64 ((↑(i + 1) : Int) - (1 : Int))), (13, .int .u64 ((↑n : Int) - (1 : Int))), (15, .sl (canon n_16).length 1 (natG .u32 (canon n_16))), (151, .int .i64 ((↑(canon y).length : Int) + (1 : Int))), (152, .int .i64 0)] [.dead, .arr u.length 1 (natG .u32 u), .dead, .arr (List.length (canon y) + 1) 1 (natG .u32 (padN (List.length (canon y) + 1) V)), .arr q.length 1 (natG .u32 q), .arr 1 1 (zj 1 [.int .u32 n]), .arr (List.length (canon n_3.1) + List.length (canon n_3.2)) 1 (natG .u32 (padN (List.length (canon n_3.1) + List.length (canon n_3.2)) n_4)), .arr 1 1 (zj 1 [.int .u32 ((↑n : Int) - (1 : Int))]), .arr (List.length (canon n_11.1) + List.length (canon n_11.2)) 1 (natG .u32 (padN (List.length (canon n_11.1) + List.length (canon n_11.2)) n_12))])))))))) (.side (inR .i64 ((↑(i + 1) : Int) - (1 : Int) + (↑(canon y).length : Int))) (.side (inR .i64 ((↑(i + 1) : Int) - (1 : Int) + (↑(canon y).length : Int) + (1 : Int))) (.side ((0 : Int) ≤ (↑(i + 1) : Int) - (1 : Int) ∧ (↑(i + 1) : Int) - (1 : Int) ≤ (↑(i + 1) : Int) - (1 : Int) + (↑(canon y).length : Int) + (1 : Int) ∧ (↑(i + 1) : Int) - (1 : Int) + (↑(canon y).length : Int) + (1 : Int) ≤ u.length) (.ex (fun (u_1 : List Nat) => u_1.length = u.length ∧ 0 + Int.toNat ((↑(i + 1) : Int) - (1 : Int)) + (Int.toNat ((↑(i + 1) : Int) - (1 : Int) + (↑(canon y).length : Int) + (1 : Int)) - Int.toNat ((↑(i + 1) : Int) - (1 : Int))) ≤ u.length ∧ Int.toNat ((↑(i + 1) : Int) - (1 : Int) + (↑(canon y).length : Int) + (1 : Int)) - Int.toNat ((↑(i + 1) : Int) - (1 : Int)) < 4611686018427387904 ∧ eqG u.length 1 (natG .u32 u) (natG .u32 u_1) ∧ dig (List.take (Int.toNat ((↑(i + 1) : Int) - (1 : Int) + (↑(canon y).length : Int) + (1 : Int)) - Int.toNat ((↑(i + 1) : Int) - (1 : Int))) (List.drop (0 + Int.toNat ((↑(i + 1) : Int) - (1 : Int))) u_1))) fun n_9 => .all (fun (x : Nat) => x = val (List.take (Int.toNat ((↑(i + 1) : Int) - (1 : Int) + (↑(canon y).length : Int) + (1 : Int)) - Int.toNat ((↑(i + 1) : Int) - (1 : Int))) (List.drop (0 + Int.toNat ((↑(i + 1) : Int) - (1 : Int))) n_9))) fun n_10 => .ex (fun (x : Nat × Nat) => eqL [AV.sl (canon n_10).length 1 (zg (natG .u32 u) (0 + Int.toNat ((↑(i + 1) : Int) - (1 : Int)))), AV.sl (canon n_4).length 1 (zg (natG .u32 (padN (List.length (canon n_3.1) + List.length (canon n_3.2)) n_4)) 0)] [AV.sl (canon x.1).length 1 (natG .u32 (canon x.1)), AV.sl (canon x.2).length 1 (natG .u32 (canon x.2))] ∧ fits x.1 ∧ x.2 ≤ x.1) fun n_11 => .all (fun (d : Nat) => d = n_11.1 - n_11.2) fun n_12 => .side (inR .i64 ((↑(canon y).length : Int) + (1 : Int))) (.leaf (.loop (Prod.fst (lps (inside (inside K73 0) 0) 0)) (Prod.snd (lps (inside (inside K73 0) 0) 0)) [(0, .undef), (1, .undef), (4, .osl 4 1 0 q.length), (8, .int .u32 s), (9, .int .i64 (↑(canon y).length : Int)), (10, .osl 1 1 0 u.length), (11, .osl 3 1 0 (List.length (canon V))), (12, .int .i64 ((↑(i + 1) : Int) - (1 : Int))), (13, .int .u64 n), (15, .sl (canon n_12).length 1 (natG .u32 (canon n_12))), (151, .int .i64 ((↑(canon y).length : Int) + (1 : Int))), (152, .int .i64 0)] [.dead, .arr u.length 1 (natG .u32 u), .dead, .arr (List.length (canon y) + 1) 1 (natG .u32 (padN (List.length (canon y) + 1) V)), .arr q.length 1 (natG .u32 q), .arr 1 1 (zj 1 [.int .u32 n]), .arr (List.length (canon n_3.1) + List.length (canon n_3.2)) 1 (natG .u32 (padN (List.length (canon n_3.1) + List.length (canon n_3.2)) n_4))])))))))))))))))))))))))))))) (.ex (fun (u_1 : List Nat) => u_1.length = u.length ∧ 0 + u.length ≤ u.length ∧ u.length < 4611686018427387904 ∧ eqG u.length 1 (natG .u32 u) (natG .u32 u_1) ∧ dig (List.take u.length (List.drop 0 u_1))) fun n => .all (fun (x : Nat) => x = val (List.take u.length (List.drop 0 n))) fun n => .ex (fun (x : Nat × Nat) => eqL [AV.sl (canon n).length 1 (zg (natG .u32 u) 0), AV.int .u32 s] [AV.sl (canon x.1).length 1 (natG .u32 (canon x.1)), AV.int .u32 x.2] ∧ fits x.1 ∧ 0 < x.2 ∧ x.2 < 1000000000) fun n => .all (fun (r : Nat × Nat) => r = (n.1 / n.2, n.1 % n.2)) fun n => .ex (fun (u : List Nat) => u.length = q.length ∧ 0 + q.length ≤ q.length ∧ q.length < 4611686018427387904 ∧ eqG q.length 1 (natG .u32 q) (natG .u32 u) ∧ dig (List.take q.length (List.drop 0 u))) fun n_1 => .all (fun (x : Nat) => x = val (List.take q.length (List.drop 0 n_1))) fun n_2 => .leaf (.ret [.osl 4 1 0 (canon n_2).length, .sl (canon n.1).length 1 (natG .u32 (canon n.1))] [.dead, .arr u.length 1 (natG .u32 u), .dead, .arr (List.length (canon y) + 1) 1 (natG .u32 (padN (List.length (canon y) + 1) V)), .arr q.length 1 (natG .u32 q)]))) (by kernel_rfl) ?_
 simp only [Tree.holds, zd, inR, lo, hi]
 refine ⟨fun hj => ?_, fun hj => by simp at hj⟩
 have ej : (((i + 1 : Nat) : Int) - 1) = (i : Int) := by omega
 have a1 : 0 + ((i : Int) + ((canon y).length : Int)).toNat = i + (m + 2) := by omega
 have a2 : 0 + ((i : Int) + ((canon y).length : Int) - 1).toNat = i + (m + 1) := by omega
 have a3 : 0 + ((i : Int) + ((canon y).length : Int) - 2).toNat = i + m := by omega
 have b1 : 0 + (((canon y).length : Int) - 1).toNat = m + 1 := by omega
 have b2 : 0 + (((canon y).length : Int) - 2).toNat = m := by omega
 have c1 : ((i : Int) + ((canon y).length : Int) + 1).toNat - (i : Int).toNat = m + 2 + 1 := by omega
 have c2 : 0 + (i : Int).toNat = i := by omega
 simp only [ej, a1, a2, a3, b1, b2, c1, c2, XY]
 have hu1 := zC hdu (i + (m + 2))
 have hu2 := zC hdu (i + (m + 1))
 have hu3 := zC hdu (i + m)
 have hv1 := zC (zf V) (m + 1)
 have hv2 := zC (zf V) m
 iterate 17 refine ⟨by omega, fun _ => ?_⟩
 obtain ⟨W, hW⟩ : ∃ W, val ((u.drop i).take (m + 2 + 1)) = W := ⟨_, rfl⟩
 have hdw : dig ((u.drop i).take (m + 2 + 1)) := jc (uP hdu _) _
 have hWl : (canon W).length ≤ m + 2 + 1 := by
  refine zr ?_
  have := zW hdw
  rw [hW, List.length_take] at this
  exact Nat.lt_of_lt_of_le this (Nat.pow_le_pow_right (by decide) (Nat.min_le_left _ _))
 obtain ⟨g1, g2, g3, g4, g5, g6⟩ := Y4 hdu (by omega) hVl hV2 hlt hW rfl
 refine ⟨⟨u.getD (i + (m + 2)) 0, u.getD (i + (m + 1)) 0, u.getD (i + m) 0, (canon V).getD (m + 1) 0, (canon V).getD m 0⟩, ⟨by simp, g3, hu2, hu3, hv1, hv2, g2⟩, ⟨_, rfl⟩, ?_⟩
 intro d hd
 simp only at hd
 rw [← hd] at g4 g5 g6
 clear hd
 have hWVB : W / V < B := by omega
 have fin := JI (x := x) (y := y) (s := s) (V := V) (U := U) (O := O) (w0 := w0) (Q := Q) (Hs0 := Hs0) hm hx hs0 hsB hV1 hV2 hVl hV0 hul hql hjq hdu hdq heq hlt hW hWVB
 have hdm := Nat.div_add_mod W V
 have hmlt := Nat.mod_lt W hV0
 have hul2 : i + (m + 2 + 1) ≤ u.length := by omega
 have hul3 : u.length < 100002 := by omega
 clear heq hlt hul hql hjq hdq hx hs0 hsB hV2 g1 g2 g3 hu1 hu2 hu3 hv1 hv2 hj a1 a2 a3 b1 b2
 generalize W / V = qd at *
 generalize W % V = rm at *
 refine ⟨by omega, fun _ => ?_⟩
 refine ⟨[d], ⟨rfl, by omega, by omega, k5 _ _, by simpa [dig] using g6⟩, ⟨_, rfl⟩, ?_⟩
 intro D hD
 have hD : D = d := by simpa [val] using hD
 subst hD
 have hdl := zr (x := D) (n := 1) (by simpa using g6)
 refine ⟨(V, D), ⟨?_, by simp only [fits]; omega, by simp only [fits]; omega⟩, ⟨_, rfl⟩, ?_⟩
 ·simp only [eqL, eqA, eqA0, true_and, and_true]
  exact ⟨xp (by omega), jO g6⟩
 intro p hp
 simp only at hp ⊢
 have hpl := kH V D
 rw [← hp] at hpl
 iterate 3 refine ⟨by omega, fun _ => ?_⟩
 refine ⟨u, ⟨rfl, hul2, by omega, za _ _ _, hdw⟩, ⟨_, rfl⟩, ?_⟩
 intro W' hW'
 have hW' : W' = W := hW'.trans hW
 subst hW'
 refine ⟨(W', p), ⟨?_, by simp only [fits]; omega, by simp only [fits]; omega⟩, ⟨_, rfl⟩, ?_⟩
 ·simp only [eqL, eqA, eqA0, true_and, and_true]
  exact ⟨jk hdw hW, xp hpl⟩
 rintro c rfl
 refine ⟨fun hlt2 => ?_, fun hge2 => ?_⟩
 ·have hlt2 : W' < p := by
   simp only [cmp3, decide_eq_true_eq] at hlt2
   rcases Nat.lt_or_ge W' p with h | h
   ·exact h
   ·rw [if_neg (by omega)] at hlt2; split at hlt2 <;> omega
  have hDQ : D = qd + 1 := by
   rcases Nat.lt_or_ge qd D with h | h
   ·omega
   ·have : V * D ≤ V * qd := Nat.mul_le_mul_left _ h
    omega
  have e3 : ((D : Int) - 1) = ((qd : Nat) : Int) := by omega
  simp only [e3]
  have hQl := zr (x := qd) (n := 1) (by simpa using hWVB)
  iterate 2 refine ⟨by omega, fun _ => ?_⟩
  refine ⟨[qd], ⟨rfl, by omega, by omega, k5 _ _, by simpa [dig] using hWVB⟩, ⟨_, rfl⟩, ?_⟩
  intro E hE
  have hE : E = qd := by simpa [val] using hE
  subst hE
  refine ⟨(V, E), ⟨?_, by simp only [fits]; omega, by simp only [fits]; omega⟩, ⟨_, rfl⟩, ?_⟩
  ·simp only [eqL, eqA, eqA0, true_and, and_true]
   exact ⟨xp (by omega), jO hWVB⟩
  intro p2 hp2
  simp only at hp2 ⊢
  have hp2l := kH V E
  rw [← hp2] at hp2l
  iterate 3 refine ⟨by omega, fun _ => ?_⟩
  refine ⟨u, ⟨rfl, hul2, by omega, za _ _ _, hdw⟩, ⟨_, rfl⟩, ?_⟩
  intro W2 hW2
  have hW2 : W2 = W' := hW2.trans hW
  subst hW2
  refine ⟨(W2, p2), ⟨?_, by simp only [fits]; omega, by simp only; omega⟩, ⟨_, rfl⟩, ?_⟩
  ·simp only [eqL, eqA, eqA0, true_and, and_true]
   exact ⟨jk hdw hW, xp hp2l⟩
  intro L hL
  simp only at hL ⊢
  have hL : L = rm := by omega
  subst hL
  refine ⟨by omega, fun _ => ?_⟩
  refine fin _ _ ⟨by simp [SC, magS, natS, za, hVl], ?_, by kernel_rfl, Nat.zero_le _⟩
  simp [HD, za]
 ·have hge2 : p ≤ W' := by
   simp only [cmp3, decide_eq_false_iff_not] at hge2
   rcases Nat.lt_or_ge W' p with h | h
   ·rw [if_pos h] at hge2; omega
   ·exact h
  have hDQ : D = qd := by
   rcases Nat.lt_or_ge qd D with h | h
   ·have : V * (qd + 1) ≤ V * D := Nat.mul_le_mul_left _ h
    rw [Nat.mul_add] at this
    omega
   ·omega
  subst hDQ
  iterate 3 refine ⟨by omega, fun _ => ?_⟩
  refine ⟨u, ⟨rfl, hul2, by omega, za _ _ _, hdw⟩, ⟨_, rfl⟩, ?_⟩
  intro W2 hW2
  have hW2 : W2 = W' := hW2.trans hW
  subst hW2
  refine ⟨(W2, p), ⟨?_, by simp only [fits]; omega, hge2⟩, ⟨_, rfl⟩, ?_⟩
  ·simp only [eqL, eqA, eqA0, true_and, and_true]
   exact ⟨jk hdw hW, xp hpl⟩
  intro L hL
  simp only at hL ⊢
  have hL : L = rm := by omega
  subst hL
  refine ⟨by omega, fun _ => ?_⟩
  refine fin _ _ ⟨by simp [SC, magS, natS, za, hVl], ?_, by kernel_rfl, Nat.zero_le _⟩
  simp [HD, za]
set_option maxHeartbeats 4000000 in
theorem Ql : zb Tryd.prog 73 xd := by
 refine xH (fn := Tryd.f73) (c := Tryd.f73.body.getD .skip) rfl rfl rfl fun x y hp O w0 Q hq => ?_
 replace hq := hq _ rfl
 obtain ⟨hx, hy, hy0⟩ := hp
 simp only at hq
 have hB : B = 1000000000 := rfl
 refine zc.run hmix Wz [0, 1, 4, 8, 9, 10, 11, 12, 13, 15, 151, 152] 400 (T := .ex (fun (x_1 : Nat × Nat) => eqL [AV.sl (canon x).length 1 (natG .u32 (canon x)), AV.sl (canon y).length 1 (natG .u32 (canon y))] [AV.sl (canon x_1.1).length 1 (natG .u32 (canon x_1.1)), AV.sl (canon x_1.2).length 1 (natG .u32 (canon x_1.2))] ∧ fits x_1.1 ∧ fits x_1.2) fun n => .all (fun (r : Int) => r = cmp3 n.1 n.2) fun n => .ite (decide (n < 0)) (.leaf (.ret [.nils, .sl (canon x).length 1 (natG .u32 (canon x))] [])) (.ite (decide ((↑(canon y).length : Int) = 1)) (.side ((0 : Int) ≤ 0 ∧ (0 : Int) < (↑(canon y).length : Int)) (.ex (fun (x_1 : Nat × Nat) => eqL [AV.sl (canon x).length 1 (natG .u32 (canon x)), AV.int .u32 (↑(List.getD (canon y) 0 0) : Int)] [AV.sl (canon x_1.1).length 1 (natG .u32 (canon x_1.1)), AV.int .u32 x_1.2] ∧ fits x_1.1 ∧ 0 < x_1.2 ∧ x_1.2 < 1000000000) fun n => .all (fun (r : Nat × Nat) => r = (n.1 / n.2, n.1 % n.2)) fun n => .ex (fun (u : List Nat) => u.length = 1 ∧ 1 ≤ 1 ∧ 1 < 4611686018427387904 ∧ eqG 1 1 (zj 1 [AV.int .u32 n.2]) (natG .u32 u) ∧ dig (List.take 1 (List.drop 0 u))) fun n_1 => .all (fun (x : Nat) => x = val (List.take 1 (List.drop 0 n_1))) fun n_2 => .leaf (.ret [.sl (canon n.1).length 1 (natG .u32 (canon n.1)), .osl 0 1 0 (canon n_2).length] [.arr 1 1 (zj 1 [.int .u32 n.2])]))) (.side (inR .i64 ((↑(canon y).length : Int) - (1 : Int))) (.side ((0 : Int) ≤ (↑(canon y).length : Int) - (1 : Int) ∧ (↑(canon y).length : Int) - (1 : Int) < (↑(canon y).length : Int)) (.side (inR .u64 (↑(List.getD (canon y) (Int.toNat ((↑(canon y).length : Int) - (1 : Int))) 0) : Int)) (.side (inR .u64 ((↑(List.getD (canon y) (Int.toNat ((↑(canon y).length : Int) - (1 : Int))) 0) : Int) + (1 : Int))) (.side ((↑(List.getD (canon y) (Int.toNat ((↑(canon y).length : Int) - (1 : Int))) 0) : Int) + (1 : Int) ≠ 0 ∧ inR .u64 (Int.tdiv (1000000000 : Int) ((↑(List.getD (canon y) (Int.toNat ((↑(canon y).length : Int) - (1 : Int))) 0) : Int) + (1 : Int)))) (.side (inR .u32 (Int.tdiv (1000000000 : Int) ((↑(List.getD (canon y) (Int.toNat ((↑(canon y).length : Int) - (1 : Int))) 0) : Int) + (1 : Int)))) (.ex (fun (x_1 : Nat × Nat) => eqL [AV.sl (canon x).length 1 (natG .u32 (canon x)), AV.sl 1 1 (zg (zj 1 [AV.int .u32 (Int.tdiv (1000000000 : Int) ((↑(List.getD (canon y) (Int.toNat ((↑(canon y).length : Int) - (1 : Int))) 0) : Int) + (1 : Int)))]) 0)] [AV.sl (canon x_1.1).length 1 (natG .u32 (canon x_1.1)), AV.sl (canon x_1.2).length 1 (natG .u32 (canon x_1.2))] ∧ fits x_1.1 ∧ fits x_1.2) fun n => .all (fun (p : Nat) => p = n.1 * n.2) fun n_1 => .leaf (.loop (Prod.fst (lps K73 0)) (Prod.snd (lps K73 0)) [(0, .sl (canon x).length 1 (natG .u32 (canon x))), (1, .sl (canon y).length 1 (natG .u32 (canon y))), (4, .nils), (8, .int .u32 (Int.tdiv (1000000000 : Int) ((↑(List.getD (canon y) (Int.toNat ((↑(canon y).length : Int) - (1 : Int))) 0) : Int) + (1 : Int)))), (9, .int .i64 (↑(canon y).length : Int)), (10, .osl 1 1 0 (canon n_1).length), (11, .undef), (12, .undef), (13, .undef), (15, .undef), (151, .undef), (152, .undef)] [.arr 1 1 (zj 1 [.int .u32 (Int.tdiv (1000000000 : Int) ((↑(List.getD (canon y) (Int.toNat ((↑(canon y).length : Int) - (1 : Int))) 0) : Int) + (1 : Int)))]), .arr (List.length (canon n.1) + List.length (canon n.2)) 1 (natG .u32 (padN (List.length (canon n.1) + List.length (canon n.2)) n_1))])))))))))) (by kernel_rfl) ?_
 simp only [Tree.holds, zd, inR, lo, hi]
 refine ⟨(x, y), ⟨by simp [za], by simp only [fits]; omega, by simp only [fits]; omega⟩, ⟨_, rfl⟩, ?_⟩
 rintro c rfl
 have hyl : 0 < (canon y).length := jh (n := 0) (by simp; omega)
 refine ⟨fun hlt => ?_, fun hge => ⟨fun h1 => ⟨by omega, fun _ => ?_⟩, fun hn => ?_⟩⟩
 ·have hxy : x < y := by
   simp only [cmp3, decide_eq_true_eq] at hlt
   rcases Nat.lt_or_ge x y with h | h
   ·exact h
   ·rw [if_neg (by omega)] at hlt; split at hlt <;> omega
  rw [Nat.div_eq_of_lt hxy, Nat.mod_eq_of_lt hxy] at hq
  refine RetR.out0 hq (fun h => by cases h) ?_
  simp [resV, exp2, exp1, exp0, ren0, eqA2, eqL1, magS, natS, z8, za]
 ·have h1 : (canon y).length = 1 := by simp at h1; omega
  have hyd : y = (canon y).getD 0 0 := by
   have := zh y
   obtain ⟨a, ha⟩ := List.length_eq_one_iff.1 h1
   rw [ha] at this ⊢
   simp [val] at this ⊢; omega
  have hyB : y < B := hyd ▸ zC (zf y) 0
  rw [← hyd]
  refine ⟨(x, y), ⟨by simp [za], by simp only [fits]; omega, hy0, hyB⟩, ⟨_, rfl⟩, ?_⟩
  rintro r rfl
  have hm := Nat.mod_lt x hy0
  have hmB : x % y < B := by omega
  refine ⟨[x % y], ⟨rfl, by omega, by omega, k5 _ _, by simpa [dig] using hmB⟩, ⟨_, rfl⟩, ?_⟩
  intro X hX
  have hX : X = x % y := by simpa [val] using hX
  subst hX
  refine RetR.out0 hq (fun h => by cases h) ?_
  simp only [resV, exp2, List.map_cons, List.map_nil, exp1, exp0, ren0, z5, frz1, jQ, List.getElem?_cons_zero, if_true, eqA2, eqL1, eqA, eqA0, magS, natS, true_and, and_true]
  exact ⟨za _ _ _, jO hmB⟩
 ·have hn : 2 ≤ (canon y).length := by simp at hn; omega
  obtain ⟨m, hm⟩ : ∃ m, (canon y).length = m + 2 := ⟨(canon y).length - 2, by omega⟩
  have e1 : ((((canon y).length : Nat) : Int) - 1).toNat = m + 1 := by omega
  have hty := zC (zf y) (m + 1)
  have htop : (canon y).getD (m + 1) 0 ≠ 0 := by
   have := qo (canon y) (by rw [qP]; omega)
   rw [qP, hm] at this
   exact this
  have hyv : ∃ r, r < B ^ (m + 1) ∧ y = r + B ^ (m + 1) * (canon y).getD (m + 1) 0 := by
   refine ⟨val ((canon y).take (m + 1)), ?_, ?_⟩
   ·have := zW (jc (zf y) (m + 1))
    rwa [List.length_take, Nat.min_eq_left (by omega)] at this
   ·have := zl (canon y) (m + 1)
    rwa [List.take_of_length_le (by omega), zh] at this
  rw [e1]
  generalize (canon y).getD (m + 1) 0 = t at hty htop hyv ⊢
  have e2 : Int.tdiv 1000000000 ((t : Int) + 1) = ((B / (t + 1) : Nat) : Int) := by
   have : ((t : Int) + 1) = ((t + 1 : Nat) : Int) := by omega
   rw [this]; rfl
  rw [e2]
  obtain ⟨s, hs⟩ : ∃ s, B / (t + 1) = s := ⟨_, rfl⟩
  obtain ⟨hs0, hs1, hs2⟩ := Y7 (by omega) hs.symm hty
  rw [hs]
  have hsB : s < B := by
   have : s * 2 ≤ s * (t + 1) := Nat.mul_le_mul_left _ (by omega)
   omega
  obtain ⟨r0, hr0, hyr⟩ := hyv
  obtain ⟨hV1, hV2⟩ := scaled hr0 hyr hs0 hs1 hs2
  refine ⟨by omega, fun _ => ⟨by omega, fun _ => ⟨by omega, fun _ => ⟨by omega, fun _ => ⟨by omega, fun _ => ⟨by omega, fun _ => ?_⟩⟩⟩⟩⟩⟩
  have hsl := Zr hs0 hsB
  refine ⟨(x, s), ⟨?_, by simp only [fits]; omega, by simp only [fits]; omega⟩, ⟨_, rfl⟩, ?_⟩
  ·simp only [eqL, eqA, eqA0, true_and, and_true]
   refine ⟨za _ _ _, hsl.symm, ?_⟩
   have := jO hsB
   rwa [hsl] at this
  intro U hU
  simp only at hU ⊢
  rw [hsl]
  have hxs : U < B ^ ((canon x).length + 1) := by
   have h1 := zW (zf x)
   rw [zh] at h1
   rw [hU, Nat.pow_succ]
   exact Nat.mul_lt_mul'' h1 hsB
  have hUl := zr hxs
  have hcan : (canon x).length + 1 ≥ m + 2 := by
   rcases Nat.lt_or_ge (canon x).length (m + 1) with h | h
   ·exfalso
    have := zM (x := x) (y := y) (by omega)
    simp [cmp3, this] at hge
   ·omega
  have hylx : (canon y).length ≤ (canon x).length := by
   rcases Nat.lt_or_ge (canon x).length (canon y).length with h | h
   ·exfalso
    have := zM h
    simp [cmp3, this] at hge
   ·exact h
  refine zc.loop (ι := IG x U) (fun i => SG x y s i.k) (fun i => [.dead, .arr i.o.length 1 (natG .u32 i.o)]) (fun i => (canon x).length + 1 - i.k)
   ⟨(canon U).length, padN ((canon x).length + 1) U, by rw [Q7 hUl]; exact hUl, by rw [Q7 hUl]; omega, jc (za5 _ _) _, by simp [padN, zh]⟩ 0 ?_ ?_ (by kernel_rfl)
  ·exact ⟨by simp [SG, magS, natS, za], by simp [za, Q7 hUl], by kernel_rfl, Nat.zero_le _⟩
  ·rintro ⟨k, o, hko, hol, hdo, hvo⟩
   refine zc.run hmix Wz [0, 1, 4, 8, 9, 10, 11, 12, 13, 15, 151, 152] 400 (T := .ite (decide ((↑k : Int) ≤ (↑(canon x).length : Int))) (.side (0 = 0 ∧ k ≤ o.length ∧ (k + 1) * 4 ≤ 140737488355328) (.leaf (.back 0 [(0, .sl (canon x).length 1 (natG .u32 (canon x))), (1, .sl (canon y).length 1 (natG .u32 (canon y))), (4, .nils), (8, .int .u32 s), (9, .int .i64 (↑(canon y).length : Int)), (10, .osl 1 1 0 (k + 1)), (11, .undef), (12, .undef), (13, .undef), (15, .undef), (151, .undef), (152, .undef)] [.dead, .arr (k + 1) 1 (appG k (natG .u32 o) (zg (zj 1 [.int .u32 0]) 0)), .arr 1 1 (zj 1 [.int .u32 0])]))) (.ex (fun (x : Nat × Nat) => eqL [AV.sl (canon y).length 1 (natG .u32 (canon y)), AV.sl 1 1 (zg (zj 1 [AV.int .u32 s]) 0)] [AV.sl (canon x.1).length 1 (natG .u32 (canon x.1)), AV.sl (canon x.2).length 1 (natG .u32 (canon x.2))] ∧ fits x.1 ∧ fits x.2) fun n => .all (fun (p : Nat) => p = n.1 * n.2) fun n_1 => .side (inR .i64 ((↑k : Int) - (↑(canon y).length : Int))) (.side ((0 : Int) ≤ k - (↑(canon y).length : Int) ∧ (↑k : Int) - (↑(canon y).length : Int) ≤ k - (↑(canon y).length : Int) ∧ inR .i64 ((↑k : Int) - (↑(canon y).length : Int)) ∧ Int.toNat ((↑k : Int) - (↑(canon y).length : Int)) * 4 ≤ 140737488355328) (.side (inR .i64 ((↑k : Int) - (↑(canon y).length : Int))) (.side (inR .i64 ((↑k : Int) - (↑(canon y).length : Int) - (1 : Int))) (.leaf (.loop (Prod.fst (lps (inside K73 0) 0)) (Prod.snd (lps (inside K73 0) 0)) [(0, .sl (canon x).length 1 (natG .u32 (canon x))), (1, .sl (canon y).length 1 (natG .u32 (canon y))), (4, .osl 4 1 0 (Int.toNat ((↑k : Int) - (↑(canon y).length : Int)))), (8, .int .u32 s), (9, .int .i64 (↑(canon y).length : Int)), (10, .osl 1 1 0 k), (11, .osl 3 1 0 (canon n_1).length), (12, .int .i64 ((↑k : Int) - (↑(canon y).length : Int) - (1 : Int))), (13, .undef), (15, .undef), (151, .undef), (152, .undef)] [.dead, .arr o.length 1 (natG .u32 o), .arr 1 1 (zj 1 [.int .u32 s]), .arr (List.length (canon n.1) + List.length (canon n.2)) 1 (natG .u32 (padN (List.length (canon n.1) + List.length (canon n.2)) n_1)), .arr (Int.toNat ((↑k : Int) - (↑(canon y).length : Int))) 1 (ke [.int .u32 0])]))))))) (by kernel_rfl) ?_
   simp only [Tree.holds, zd, inR, lo, hi]
   refine ⟨fun hk => ?_, fun hk => ?_⟩
   ·have hk : k ≤ (canon x).length := by simp at hk; omega
    refine ⟨⟨trivial, hko, by omega⟩, fun _ => ?_⟩
    rw [if_pos trivial]
    have hkl : (o.take k).length = k := by rw [List.length_take]; omega
    refine ⟨⟨k + 1, o.take k ++ [0], by simp [hkl], by simp [hkl]; omega, ?_, ?_⟩, by show _ - (k + 1) < _ - k; omega, by simp [SG, magS, natS, za], ?_, by kernel_rfl, Nat.zero_le _⟩
    ·rw [List.take_of_length_le (by simp [hkl])]; exact qJ.2 ⟨hdo, by simp [dig]⟩
    ·rw [List.take_of_length_le (by simp [hkl]), zA]; simp [val, hvo]
    ·refine ⟨trivial, ⟨by simp [hkl], rfl, ?_⟩, trivial⟩
     intro j o' hj ho'
     have : o' = 0 := by omega
     subst this
     simp only [appG, zg, zj, natG]
     by_cases h : j < k
     ·rw [if_pos h]
      simp only [List.getD]
      rw [List.getElem?_append_left (by omega), List.getElem?_take, if_pos h]
     ·have : j = k := by omega
      subst this
      rw [if_neg h]
      simp [List.getElem?_append_right, hkl]
   ·have hk : k = (canon x).length + 1 := by simp at hk; omega
    have hok : o.length = (canon x).length + 1 := by omega
    rw [List.take_of_length_le (by omega)] at hdo hvo
    refine ⟨(y, s), ⟨?_, by simp only [fits]; omega, by simp only [fits]; omega⟩, ⟨_, rfl⟩, ?_⟩
    ·simp only [eqL, eqA, eqA0, true_and, and_true]
     refine ⟨za _ _ _, hsl.symm, ?_⟩
     have := jO hsB
     rwa [hsl] at this
    intro V hV
    simp only at hV ⊢
    rw [hsl]
    rw [← hV] at hV1 hV2
    have hVl : (canon V).length = m + 2 := by
     have h1 := zr hV1
     have h2 : B ^ (m + 1) ≤ V := by
      have : B ^ (m + 1 + 1) = B ^ (m + 1) * B := Nat.pow_succ ..
      rw [this] at hV2
      have : B ^ (m + 1) * 2 ≤ B ^ (m + 1) * B := Nat.mul_le_mul_left _ (by decide)
      omega
     have := jh h2
     omega
    have hV0 : 0 < V := by
     rcases Nat.eq_zero_or_pos V with h | h
     ·rw [h, z8] at hVl; simp at hVl
     ·exact h
    have eq0 : ((k : Int) - ((canon y).length : Int)).toNat = k - (canon y).length := by omega
    rw [eq0]
    refine ⟨by omega, fun _ => ⟨by omega, fun _ => ⟨by omega, fun _ => ⟨by omega, fun _ => ?_⟩⟩⟩⟩
    have hqe : U / V = x / y ∧ U % V = x % y * s := by
     rw [hU, hV]
     exact ⟨Nat.mul_div_mul_right _ _ hs0, Nat.mul_mod_mul_right _ _ _⟩
    refine zc.loop (ι := ID x y V U) (fun i => SD y s V i.u.length i.q.length i.j) (fun i => HD y V i.u i.q) (fun i => i.j)
     ⟨o, List.replicate (k - (canon y).length) 0, k - (canon y).length, hok, by simp; omega, by simp, hdo, qD _, by simp [val, hvo], ?_⟩ 0 ?_ ?_ (by kernel_rfl)
    ·rw [hvo]
     have h1 : U * 2 ≤ x * B := by
      rw [hU, Nat.mul_assoc]
      refine Nat.mul_le_mul_left _ ?_
      have : s * 2 ≤ s * (t + 1) := Nat.mul_le_mul_left _ (by omega)
      omega
     have h2 : x < B ^ (canon x).length := by have := zW (zf x); rwa [zh] at this
     have h3 : B ^ (m + 1 + 1) * B ^ (k - (canon y).length) ≤ 2 * V * B ^ (k - (canon y).length) := Nat.mul_le_mul_right _ hV2
     rw [← Nat.pow_add, show m + 1 + 1 + (k - (canon y).length) = (canon x).length + 1 by omega, Nat.pow_succ] at h3
     have h4 : x * B < B ^ (canon x).length * B := Nat.mul_lt_mul_of_pos_right h2 (by decide)
     rw [Nat.mul_assoc] at h3
     omega
    ·refine ⟨?_, ?_, by kernel_rfl, Nat.zero_le _⟩
     ·simp [SD, hVl, hm, hok, hk, za]; omega
     ·simp [HD, za, xV]
    ·rintro ⟨u, q, j, hul, hql, hjq, hdu, hdq, heq, hlt⟩
     rcases j with _ | i
     ·refine zc.run hmix Wz [0, 1, 4, 8, 9, 10, 11, 12, 13, 15, 151, 152] 400 (T := .ite false (.side (inR .i64 ((-1 : Int) + (↑(canon y).length : Int))) (.side ((0 : Int) ≤ (-1 : Int) + (↑(canon y).length : Int) ∧ (-1 : Int) + (↑(canon y).length : Int) < u.length) (.side (inR .u64 (↑(List.getD u (0 + Int.toNat ((-1 : Int) + (↑(canon y).length : Int))) 0) : Int)) (.side (inR .i64 ((-1 : Int) + (↑(canon y).length : Int))) (.side (inR .i64 ((-1 : Int) + (↑(canon y).length : Int) - (1 : Int))) (.side ((0 : Int) ≤ (-1 : Int) + (↑(canon y).length : Int) - (1 : Int) ∧ (-1 : Int) + (↑(canon y).length : Int) - (1 : Int) < u.length) (.side (inR .u64 (↑(List.getD u (0 + Int.toNat ((-1 : Int) + (↑(canon y).length : Int) - (1 : Int))) 0) : Int)) (.side (inR .i64 ((-1 : Int) + (↑(canon y).length : Int))) (.side (inR .i64 ((-1 : Int) + (↑(canon y).length : Int) - (2 : Int))) (.side ((0 : Int) ≤ (-1 : Int) + (↑(canon y).length : Int) - (2 : Int) ∧ (-1 : Int) + (↑(canon y).length : Int) - (2 : Int) < u.length) (.side (inR .u64 (↑(List.getD u (0 + Int.toNat ((-1 : Int) + (↑(canon y).length : Int) - (2 : Int))) 0) : Int)) (.side (inR .i64 ((↑(canon y).length : Int) - (1 : Int))) (.side ((0 : Int) ≤ (↑(canon y).length : Int) - (1 : Int) ∧ (↑(canon y).length : Int) - (1 : Int) < (↑(List.length (canon V)) : Int)) (.side (inR .u64 (↑(List.getD (padN (List.length (canon y) + 1) V) (0 + Int.toNat ((↑(canon y).length : Int) - (1 : Int))) 0) : Int)) (.side (inR .i64 ((↑(canon y).length : Int) - (2 : Int))) (.side ((0 : Int) ≤ (↑(canon y).length : Int) - (2 : Int) ∧ (↑(canon y).length : Int) - (2 : Int) < (↑(List.length (canon V)) : Int)) (.side (inR .u64 (↑(List.getD (padN (List.length (canon y) + 1) V) (0 + Int.toNat ((↑(canon y).length : Int) - (2 : Int))) 0) : Int)) (.ex (fun (x : D5) => eqL [AV.int .u64 (↑(List.getD u (0 + Int.toNat ((-1 : Int) + (↑(canon y).length : Int))) 0) : Int), AV.int .u64 (↑(List.getD u (0 + Int.toNat ((-1 : Int) + (↑(canon y).length : Int) - (1 : Int))) 0) : Int), AV.int .u64 (↑(List.getD u (0 + Int.toNat ((-1 : Int) + (↑(canon y).length : Int) - (2 : Int))) 0) : Int), AV.int .u64 (↑(List.getD (padN (List.length (canon y) + 1) V) (0 + Int.toNat ((↑(canon y).length : Int) - (1 : Int))) 0) : Int), AV.int .u64 (↑(List.getD (padN (List.length (canon y) + 1) V) (0 + Int.toNat ((↑(canon y).length : Int) - (2 : Int))) 0) : Int)] [AV.int .u64 (↑(D5.t x) : Int), AV.int .u64 (↑(D5.u x) : Int), AV.int .u64 (↑(D5.v x) : Int), AV.int .u64 (↑(D5.y x) : Int), AV.int .u64 (↑(D5.z x) : Int)] ∧ D5.t x ≤ D5.y x ∧ D5.u x < 1000000000 ∧ D5.v x < 1000000000 ∧ D5.y x < 1000000000 ∧ D5.z x < 1000000000 ∧ 1000000000 ≤ 2 * D5.y x) fun n => .all (fun (n_1 : Nat) => n_1 = qH (D5.v n) (D5.y n) (D5.z n) 2 ((D5.t n * 1000000000 + D5.u n) / D5.y n) ((D5.t n * 1000000000 + D5.u n) % D5.y n)) fun n => .side (inR .u32 (↑n : Int)) (.ex (fun (u : List Nat) => u.length = 1 ∧ 1 ≤ 1 ∧ 1 < 4611686018427387904 ∧ eqG 1 1 (zj 1 [AV.int .u32 n]) (natG .u32 u) ∧ dig (List.take 1 (List.drop 0 u))) fun n_1 => .all (fun (x : Nat) => x = val (List.take 1 (List.drop 0 n_1))) fun n_2 => .ex (fun (x : Nat × Nat) => eqL [AV.sl (List.length (canon V)) 1 (zg (natG .u32 (padN (List.length (canon y) + 1) V)) 0), AV.sl (canon n_2).length 1 (zg (zj 1 [AV.int .u32 n]) 0)] [AV.sl (canon x.1).length 1 (natG .u32 (canon x.1)), AV.sl (canon x.2).length 1 (natG .u32 (canon x.2))] ∧ fits x.1 ∧ fits x.2) fun n_3 => .all (fun (p : Nat) => p = n_3.1 * n_3.2) fun n_4 => .side (inR .i64 ((-1 : Int) + (↑(canon y).length : Int))) (.side (inR .i64 ((-1 : Int) + (↑(canon y).length : Int) + (1 : Int))) (.side ((0 : Int) ≤ (-1 : Int) ∧ (-1 : Int) ≤ (-1 : Int) + (↑(canon y).length : Int) + (1 : Int) ∧ (-1 : Int) + (↑(canon y).length : Int) + (1 : Int) ≤ u.length) (.ex (fun (u_1 : List Nat) => u_1.length = u.length ∧ 0 + (Int.toNat ((-1 : Int) + (↑(canon y).length : Int) + (1 : Int)) - 0) ≤ u.length ∧ Int.toNat ((-1 : Int) + (↑(canon y).length : Int) + (1 : Int)) - 0 < 4611686018427387904 ∧ eqG u.length 1 (natG .u32 u) (natG .u32 u_1) ∧ dig (List.take (Int.toNat ((-1 : Int) + (↑(canon y).length : Int) + (1 : Int)) - 0) (List.drop 0 u_1))) fun n_5 => .all (fun (x : Nat) => x = val (List.take (Int.toNat ((-1 : Int) + (↑(canon y).length : Int) + (1 : Int)) - 0) (List.drop 0 n_5))) fun n_6 => .ex (fun (x : Nat × Nat) => eqL [AV.sl (canon n_6).length 1 (zg (natG .u32 u) 0), AV.sl (canon n_4).length 1 (zg (natG .u32 (padN (List.length (canon n_3.1) + List.length (canon n_3.2)) n_4)) 0)] [AV.sl (canon x.1).length 1 (natG .u32 (canon x.1)), AV.sl (canon x.2).length 1 (natG .u32 (canon x.2))] ∧ fits x.1 ∧ fits x.2) fun n_7 => .all (fun (r : Int) => r = cmp3 n_7.1 n_7.2) fun n_8 => .ite (decide (n_8 < 0)) (.side (inR .u64 ((↑n : Int) - (1 : Int))) (.side (inR .u32 ((↑n : Int) - (1 : Int))) (.ex (fun (u : List Nat) => u.length = 1 ∧ 1 ≤ 1 ∧ 1 < 4611686018427387904 ∧ eqG 1 1 (zj 1 [AV.int .u32 ((↑n : Int) - (1 : Int))]) (natG .u32 u) ∧ dig (List.take 1 (List.drop 0 u))) fun n_9 => .all (fun (x : Nat) => x = val (List.take 1 (List.drop 0 n_9))) fun n_10 => .ex (fun (x : Nat × Nat) => eqL [AV.sl (List.length (canon V)) 1 (zg (natG .u32 (padN (List.length (canon y) + 1) V)) 0), AV.sl (canon n_10).length 1 (zg (zj 1 [AV.int .u32 ((↑n : Int) - (1 : Int))]) 0)] [AV.sl (canon x.1).length 1 (natG .u32 (canon x.1)), AV.sl (canon x.2).length 1 (natG .u32 (canon x.2))] ∧ fits x.1 ∧ fits x.2) fun n_11 => .all (fun (p : Nat) => p = n_11.1 * n_11.2) fun n_12 => .side (inR .i64 ((-1 : Int) + (↑(canon y).length : Int))) (.side (inR .i64 ((-1 : Int) + (↑(canon y).length : Int) + (1 : Int))) (.side ((0 : Int) ≤ (-1 : Int) ∧ (-1 : Int) ≤ (-1 : Int) + (↑(canon y).length : Int) + (1 : Int) ∧ (-1 : Int) + (↑(canon y).length : Int) + (1 : Int) ≤ u.length) (.ex (fun (u_1 : List Nat) => u_1.length = u.length ∧ 0 + (Int.toNat ((-1 : Int) + (↑(canon y).length : Int) + (1 : Int)) - 0) ≤ u.length ∧ Int.toNat ((-1 : Int) + (↑(canon y).length : Int) + (1 : Int)) - 0 < 4611686018427387904 ∧ eqG u.length 1 (natG .u32 u) (natG .u32 u_1) ∧ dig (List.take (Int.toNat ((-1 : Int) + (↑(canon y).length : Int) + (1 : Int)) - 0) (List.drop 0 u_1))) fun n_13 => .all (fun (x : Nat) => x = val (List.take (Int.toNat ((-1 : Int) + (↑(canon y).length : Int) + (1 : Int)) - 0) (List.drop 0 n_13))) fun n_14 => .ex (fun (x : Nat × Nat) => eqL [AV.sl (canon n_14).length 1 (zg (natG .u32 u) 0), AV.sl (canon n_12).length 1 (zg (natG .u32 (padN (List.length (canon n_11.1) + List.length (canon n_11.2)) n_12)) 0)] [AV.sl (canon x.1).length 1 (natG .u32 (canon x.1)), AV.sl (canon x.2).length 1 (natG .u32 (canon x.2))] ∧ fits x.1 ∧ x.2 ≤ x.1) fun n_15 => .all (fun (d : Nat) => d = n_15.1 - n_15.2) fun n_16 => .side (inR .i64 ((↑(canon y).length : Int) + (1 : Int))) (.leaf (.loop (Prod.fst (lps (inside (inside K73 0) 0) 0)) (Prod.snd (lps (inside (inside K73 0) 0) 0)) [(0, .undef), (1, .undef), (4, .osl 4 1 0 q.length), (8, .int .u32 s), (9, .int .i64 (↑(canon y).length : Int)), (10, .osl 1 1 0 u.length), (11, .osl 3 1 0 (List.length (canon V))), (12, .int .i64 (-1 : Int)), (13, .int .u64 ((↑n : Int) - (1 : Int))), (15, .sl (canon n_16).length 1 (natG .u32 (canon n_16))), (151, .int .i64 ((↑(canon y).length : Int) + (1 : Int))), (152, .int .i64 0)] [.dead, .arr u.length 1 (natG .u32 u), .dead, .arr (List.length (canon y) + 1) 1 (natG .u32 (padN (List.length (canon y) + 1) V)), .arr q.length 1 (natG .u32 q), .arr 1 1 (zj 1 [.int .u32 n]), .arr (List.length (canon n_3.1) + List.length (canon n_3.2)) 1 (natG .u32 (padN (List.length (canon n_3.1) + List.length (canon n_3.2)) n_4)), .arr 1 1 (zj 1 [.int .u32 ((↑n : Int) - (1 : Int))]), .arr (List.length (canon n_11.1) + List.length (canon n_11.2)) 1 (natG .u32 (padN (List.length (canon n_11.1) + List.length (canon n_11.2)) n_12))])))))))) (.side (inR .i64 ((-1 : Int) + (↑(canon y).length : Int))) (.side (inR .i64 ((-1 : Int) + (↑(canon y).length : Int) + (1 : Int))) (.side ((0 : Int) ≤ (-1 : Int) ∧ (-1 : Int) ≤ (-1 : Int) + (↑(canon y).length : Int) + (1 : Int) ∧ (-1 : Int) + (↑(canon y).length : Int) + (1 : Int) ≤ u.length) (.ex (fun (u_1 : List Nat) => u_1.length = u.length ∧ 0 + (Int.toNat ((-1 : Int) + (↑(canon y).length : Int) + (1 : Int)) - 0) ≤ u.length ∧ Int.toNat ((-1 : Int) + (↑(canon y).length : Int) + (1 : Int)) - 0 < 4611686018427387904 ∧ eqG u.length 1 (natG .u32 u) (natG .u32 u_1) ∧ dig (List.take (Int.toNat ((-1 : Int) + (↑(canon y).length : Int) + (1 : Int)) - 0) (List.drop 0 u_1))) fun n_9 => .all (fun (x : Nat) => x = val (List.take (Int.toNat ((-1 : Int) + (↑(canon y).length : Int) + (1 : Int)) - 0) (List.drop 0 n_9))) fun n_10 => .ex (fun (x : Nat × Nat) => eqL [AV.sl (canon n_10).length 1 (zg (natG .u32 u) 0), AV.sl (canon n_4).length 1 (zg (natG .u32 (padN (List.length (canon n_3.1) + List.length (canon n_3.2)) n_4)) 0)] [AV.sl (canon x.1).length 1 (natG .u32 (canon x.1)), AV.sl (canon x.2).length 1 (natG .u32 (canon x.2))] ∧ fits x.1 ∧ x.2 ≤ x.1) fun n_11 => .all (fun (d : Nat) => d = n_11.1 - n_11.2) fun n_12 => .side (inR .i64 ((↑(canon y).length : Int) + (1 : Int))) (.leaf (.loop (Prod.fst (lps (inside (inside K73 0) 0) 0)) (Prod.snd (lps (inside (inside K73 0) 0) 0)) [(0, .undef), (1, .undef), (4, .osl 4 1 0 q.length), (8, .int .u32 s), (9, .int .i64 (↑(canon y).length : Int)), (10, .osl 1 1 0 u.length), (11, .osl 3 1 0 (List.length (canon V))), (12, .int .i64 (-1 : Int)), (13, .int .u64 n), (15, .sl (canon n_12).length 1 (natG .u32 (canon n_12))), (151, .int .i64 ((↑(canon y).length : Int) + (1 : Int))), (152, .int .i64 0)] [.dead, .arr u.length 1 (natG .u32 u), .dead, .arr (List.length (canon y) + 1) 1 (natG .u32 (padN (List.length (canon y) + 1) V)), .arr q.length 1 (natG .u32 q), .arr 1 1 (zj 1 [.int .u32 n]), .arr (List.length (canon n_3.1) + List.length (canon n_3.2)) 1 (natG .u32 (padN (List.length (canon n_3.1) + List.length (canon n_3.2)) n_4))])))))))))))))))))))))))))))) (.ex (fun (u_1 : List Nat) => u_1.length = u.length ∧ 0 + u.length ≤ u.length ∧ u.length < 4611686018427387904 ∧ eqG u.length 1 (natG .u32 u) (natG .u32 u_1) ∧ dig (List.take u.length (List.drop 0 u_1))) fun n => .all (fun (x : Nat) => x = val (List.take u.length (List.drop 0 n))) fun n => .ex (fun (x : Nat × Nat) => eqL [AV.sl (canon n).length 1 (zg (natG .u32 u) 0), AV.int .u32 s] [AV.sl (canon x.1).length 1 (natG .u32 (canon x.1)), AV.int .u32 x.2] ∧ fits x.1 ∧ 0 < x.2 ∧ x.2 < 1000000000) fun n => .all (fun (r : Nat × Nat) => r = (n.1 / n.2, n.1 % n.2)) fun n => .ex (fun (u : List Nat) => u.length = q.length ∧ 0 + q.length ≤ q.length ∧ q.length < 4611686018427387904 ∧ eqG q.length 1 (natG .u32 q) (natG .u32 u) ∧ dig (List.take q.length (List.drop 0 u))) fun n_1 => .all (fun (x : Nat) => x = val (List.take q.length (List.drop 0 n_1))) fun n_2 => .leaf (.ret [.osl 4 1 0 (canon n_2).length, .sl (canon n.1).length 1 (natG .u32 (canon n.1))] [.dead, .arr u.length 1 (natG .u32 u), .dead, .arr (List.length (canon y) + 1) 1 (natG .u32 (padN (List.length (canon y) + 1) V)), .arr q.length 1 (natG .u32 q)]))) (by kernel_rfl) ?_
      simp only [Tree.holds, zd, inR, lo, hi]
      refine ⟨fun hj => by simp at hj, fun hj => ?_⟩
      simp only [List.drop_zero, Nat.pow_zero, Nat.mul_one] at heq hlt
      have hdiv : U / V = val q ∧ U % V = val u := by
       rw [heq]
       exact ⟨by rw [Nat.mul_add_div hV0, Nat.div_eq_of_lt hlt, Nat.add_zero], by rw [Nat.mul_add_mod, Nat.mod_eq_of_lt hlt]⟩
      have hqv : val q = x / y := by rw [← hdiv.1, hqe.1]
      have huv : val u = x % y * s := by rw [← hdiv.2, hqe.2]
      refine ⟨u, ⟨rfl, by omega, by omega, za _ _ _, by simpa using hdu⟩, ⟨_, rfl⟩, ?_⟩
      intro X hX
      have hX : X = x % y * s := by simpa [huv] using hX
      have hw : val ((u.drop 0).take u.length) = X := by simp [huv, hX]
      have hXl := jk (k := .u32) (u := u) (off := 0) (n := u.length) (by simpa using hdu) hw
      have hmy := Nat.mod_lt x hy0
      have hXlen : (canon X).length ≤ u.length := by
       refine zr ?_
       rw [hX, ← huv]; exact zW hdu
      refine ⟨(X, s), ⟨?_, by simp only [fits]; omega, hs0, hsB⟩, ⟨_, rfl⟩, ?_⟩
      ·simp only [eqL, eqA, eqA0, true_and, and_true]
       exact hXl
      rintro r rfl
      have hXs : X / s = x % y := by rw [hX]; exact Nat.mul_div_cancel _ hs0
      simp only [hXs]
      refine ⟨q, ⟨rfl, by omega, by omega, za _ _ _, by simpa using hdq⟩, ⟨_, rfl⟩, ?_⟩
      intro Y hY
      have hY : Y = x / y := by simpa [hqv] using hY
      subst hY
      refine RetR.out0 hq (fun h => by cases h) ?_
      have hw2 : val ((q.drop 0).take q.length) = x / y := by simp [hqv]
      simp only [resV, exp2, List.map_cons, List.map_nil, exp1, exp0, ren0, z5, frz1, jQ, List.getElem?_cons_zero, List.getElem?_cons_succ, if_true, eqA2, eqL1, eqA, eqA0, magS, natS, true_and, and_true]
      exact ⟨jk (by simpa using hdq) hw2, za _ _ _⟩
     ·exact QV hm hx hs0 hsB hV1 hV2 hVl hV0 hul hql hjq hdu hdq heq hlt
end Go.Proofs.Tryd
end

/- The integers' texts: reading. -/
section
set_option maxRecDepth 100000
open Go Go.Sx Go.Proofs Go.Nov
namespace Go.Proofs.Tryd
attribute [local simp] eqKV eqA eqA0 eqH eqB eqL eqL0
noncomputable def K84 : List Go.Sx.Item := [.code (Tryd.f84.body.getD .skip)]
def Kr : Ctr := ctrT false false (fun s : List UInt8 => [.str s]) (fun _ => []) (fun _ => True) (fun _ (_ : Unit) => True) (fun s _ => (.fn 108 [] [.ptr 0 0], [.box [.str s]]))
theorem X5 : zb Tryd.prog 99 Kr := by
 refine zB (fn := Tryd.f99) (c := Tryd.f99.body.getD .skip) rfl rfl rfl (fun h => by cases h) fun s hp O w0 σ0 Q hl hq => ?_
 have h0 : σ0 = [] := List.length_eq_zero_iff.1 (by simpa using hl)
 subst h0
 refine zc.run hmix zD [0] 400 (T := .leaf (.ret [.fn 108 [] [.ptr 0 0]] [.box [.str s]])) (by kernel_rfl) ?_
 simp only [Tree.holds, zd]
 exact RetR.out1 0 (by simp) (hq () trivial) (fun h => by cases h) (by simp [resV, exp2, exp1, exp0, z5, ren0, eqA2]) (by simp [expB, exp1, exp0, ren0])
noncomputable def G3 : Nat → Option Ctr := fun f => if f = 99 then some (Kr) else if f = 87 then some (yr) else none
theorem ZK : ∀ g c, G3 g = some c → zb Tryd.prog g c := okIf X5 (okIf QA (zn))
def KR : KV := [(2, .ptr 0 0), (3, .ptr 1 0), (5, .undef), (6, .undef), (16, .fn 108 [] [.ptr 2 0]), (17, .undef), (19, .undef), (20, .undef)]
def HR (neg : Bool) (b : List UInt8) : List Nat → Heap
 | [] => [.box [.bool false, .nils], .box [.bool neg, .nils], .box [.str b]]
 | d :: o => [.box [.bool false, .nils], .box [.bool neg, .osl 4 1 0 (o.length + 1)], .box [.str b], .arr 1 1 (natG .u32 [d]), .arr (o.length + 1) 1 (natG .u32 (d :: o))]
theorem Vf (s : ByteArray) : ∀ e, e ≤ s.size → val ((chunks s e).map decB) = numD (s.data.toList.take e) := by
 intro e
 induction e using Nat.strongRecOn with
 | _ e ih =>
  intro he
  rcases Nat.eq_zero_or_pos e with h | h
  ·subst h; simp [wW, val, numD]
  ·rw [wO s h, List.map_cons, val, ih (e - 9) (by omega) (by omega)]
   have hl : s.data.toList.length = s.size := by rw [Array.length_toList]; rfl
   have h1 : s.data.toList.take e = s.data.toList.take (e - 9) ++ (s.data.toList.take e).drop (e - 9) := by
    conv => lhs; rw [← List.take_append_drop (e - 9) (s.data.toList.take e)]
    rw [List.take_take, Nat.min_eq_left (by omega)]
   rw [h1, wT, decB, xq, Nat.add_comm, Nat.mul_comm]
   congr 1
   rcases Nat.lt_or_ge e 9 with h9 | h9
   ·rw [show e - 9 = 0 by omega]; simp [numD]
   ·congr 1
    have : ((s.data.toList.take e).drop (e - 9)).length = 9 := by simp; omega
    rw [this]
theorem VB (s : ByteArray) (hd : allD s.data.toList) : ∀ e, e ≤ s.size → ∀ x ∈ chunks s e, x.size ≤ 9 ∧ allD x.data.toList := by
 intro e
 induction e using Nat.strongRecOn with
 | _ e ih =>
  intro he x hx
  rcases Nat.eq_zero_or_pos e with h | h
  ·subst h; simp [wW] at hx
  ·rw [wO s h] at hx
   rcases List.mem_cons.1 hx with rfl | hx
   ·refine ⟨by rw [ByteArray.size_extract]; omega, ?_⟩
    rw [xq]
    intro c hc
    exact hd c (List.mem_of_mem_take (List.mem_of_mem_drop hc))
   ·exact ih (e - 9) (by omega) (by omega) x hx
theorem ue (s : ByteArray) : ∀ e, (chunks s e).length ≤ e := by
 intro e
 induction e using Nat.strongRecOn with
 | _ e ih =>
  rcases Nat.eq_zero_or_pos e with h | h
  ·subst h; simp [wW]
  ·rw [wO s h, List.length_cons]
   have := ih (e - 9) (by omega)
   omega
abbrev Grp : Type := {x : ByteArray // x.size ≤ 9 ∧ allD x.data.toList}
def Yv : Ctr := ctrP false (fun p : Bool × List UInt8 => [.str (sgn p.1 p.2)]) (fun p => allD p.2 ∧ p.2 ≠ [] ∧ p.2.length ≤ 1000000) (fun p r => r = numD p.2) (fun p r => (.agg [.bool p.1, magS r], []))
def SR (x : List UInt8) (v i : Nat) : KV := [(2, .ptr 0 0), (3, .ptr 1 0), (5, .str x), (6, .int .u32 (v : Int)), (16, .undef), (17, .undef), (19, .int .i64 (x.length : Int)), (20, .int .i64 (i : Int))]
theorem XA {O : Nat → Prop} {W : World} {σ1 : List SE} (l : Nat) (neg : Bool) (b : List UInt8) (o : List Nat) (ho : o.length ≤ 1000000) (y : List UInt8) (hxd : allD y) (hx9 : y.length ≤ 9) (X : Prop) (Hx : Heap) :
  j0 (some l) Tryd.prog (bare Tryd.f84) O 3 W σ1 (fun d kv' h' => LeK 3 Tryd.f84.ntmps [] h' [] (HR neg b (o ++ [numD y]))) (fun _ h' => X ∧ LeK 3 Tryd.f84.ntmps [] h' [] Hx) (.code (.loop (lps (roundOf K84 0) 0).1) :: (lps (roundOf K84 0) 0).2)
   (mk Tryd.f84.ntmps [(2, .ptr 0 0), (3, .ptr 1 0), (5, .str y), (6, .int .u32 0), (16, .fn 108 [] [.ptr 2 0]), (17, .str y), (19, .int .i64 (y.length : Int)), (20, .int .i64 0)] (HR neg b o)) := by
 refine zc.loop (ι := {i : Nat // i ≤ y.length}) (fun i => SR y (numD (y.take i.1)) i.1) (fun _ => HR neg b o) (fun i => y.length - i.1) ⟨0, Nat.zero_le _⟩ 1 ?_ ?_ (by kernel_rfl)
 ·refine ⟨by simp [SR, numD], ?_, ?_, ?_⟩
  ·cases o <;> simp [HR, za]
  ·cases o <;> kernel_rfl
  ·cases o <;> simp [HR]
 ·rintro ⟨i, hil⟩
  have hbound : numD (y.take i) < 1000000000 := by
   have h1 := x8 (l := y.take i) fun c hc => hxd c (List.mem_of_mem_take hc)
   have h2 : 10 ^ (y.take i).length ≤ 10 ^ 9 := Nat.pow_le_pow_right (by decide) (by rw [List.length_take]; omega)
   have h4 : (10 : Nat) ^ 9 = 1000000000 := by decide
   omega
  have hnext : ∀ h : i < y.length, numD (y.take (i + 1)) = numD (y.take i) * 10 + ((y.getD i 0).toNat - 48) := by
   intro h; rw [W9 y i h, Xf]
  have hdig : i < y.length → 48 ≤ (y.getD i 0).toNat ∧ (y.getD i 0).toNat ≤ 57 := by
   intro h
   have := hxd (y.getD i 0) (by simp [List.getD, h])
   exact this
  have hnb : i < y.length → numD (y.take (i + 1)) < 1000000000 := by
   intro h
   have h1 := x8 (l := y.take (i + 1)) fun c hc => hxd c (List.mem_of_mem_take hc)
   have h2 : 10 ^ (y.take (i + 1)).length ≤ 10 ^ 9 := Nat.pow_le_pow_right (by decide) (by rw [List.length_take]; omega)
   have h4 : (10 : Nat) ^ 9 = 1000000000 := by decide
   omega
  obtain ⟨v, hv⟩ : ∃ v, numD (y.take i) = v := ⟨_, rfl⟩
  simp only [hv] at hbound hnext ⊢
  have ei : ((i : Int) + 1) = ((i + 1 : Nat) : Int) := by omega
  cases o with
  | nil =>
   refine zc.run hmix ZK [2, 3, 5, 6, 16, 17, 19, 20] 400 (T := .ite (decide ((↑i : Int) < y.length)) (.side (inR .u32 ((↑v : Int) * (10 : Int))) (.side ((0 : Int) ≤ i ∧ (↑i : Int) < y.length) (.side (inR .u8 ((↑(UInt8.toNat (List.getD y (Int.toNat (↑i : Int)) (0 : UInt8))) : Int) - (48 : Int))) (.side (inR .u32 ((↑(UInt8.toNat (List.getD y (Int.toNat (↑i : Int)) (0 : UInt8))) : Int) - (48 : Int))) (.side (inR .u32 ((↑v : Int) * (10 : Int) + ((↑(UInt8.toNat (List.getD y (Int.toNat (↑i : Int)) (0 : UInt8))) : Int) - (48 : Int)))) (.side (inR .i64 ((↑i : Int) + (1 : Int))) (.leaf (.back 1 [(2, .ptr 0 0), (3, .ptr 1 0), (5, .str y), (6, .int .u32 ((↑v : Int) * (10 : Int) + ((↑(UInt8.toNat (List.getD y (Int.toNat (↑i : Int)) (0 : UInt8))) : Int) - (48 : Int)))), (16, .undef), (17, .undef), (19, .int .i64 y.length), (20, .int .i64 ((↑i : Int) + (1 : Int)))] [.box [.bool false, .nils], .box [.bool neg, .nils], .box [.str b]])))))))) (.side (4 ≤ 140737488355328) (.leaf (.back 0 [(2, .ptr 0 0), (3, .ptr 1 0), (5, .str y), (6, .int .u32 v), (16, .undef), (17, .undef), (19, .int .i64 y.length), (20, .int .i64 i)] [.box [.bool false, .nils], .box [.bool neg, .osl 4 1 0 1], .box [.str b], .arr 1 1 (zj 1 [.int .u32 v]), .arr 1 1 (zg (zj 1 [.int .u32 v]) 0)])))) (by kernel_rfl) ?_
   simp only [Tree.holds, zd, inR, lo, hi, Int.toNat_natCast, ei]
   refine ⟨fun hlt => ?_, fun hge => ?_⟩
   ·have hlt : i < y.length := by simp at hlt; omega
    have h1 := hdig hlt
    have h2 := hnb hlt
    have h3 := hnext hlt
    generalize (y.getD i 0).toNat = c at h1 h3 ⊢
    iterate 6 refine ⟨by omega, fun _ => ?_⟩
    rw [if_pos trivial]
    refine ⟨⟨i + 1, hlt⟩, by show y.length - (i + 1) < y.length - i; omega, ?_, by simp [HR], by kernel_rfl, by simp [HR]⟩
    simp [SR, h3]; omega
   ·have hge : i = y.length := by simp at hge; omega
    subst hge
    rw [List.take_length] at hv
    refine ⟨by omega, fun _ => ?_⟩
    rw [if_neg (by decide), hv]
    refine ⟨by simp, ?_, by kernel_rfl, by simp [HR]⟩
    simp only [List.nil_append, HR]
    refine ⟨by simp, by simp, by simp, ⟨rfl, rfl, k5 _ _⟩, ⟨rfl, rfl, ?_⟩, trivial⟩
    exact fun j o hj ho => by simpa [zg] using k5 .u32 v j o hj ho
  | cons d o =>
   refine zc.run hmix ZK [2, 3, 5, 6, 16, 17, 19, 20] 400 (T := .ite (decide ((↑i : Int) < y.length)) (.side (inR .u32 ((↑v : Int) * (10 : Int))) (.side ((0 : Int) ≤ i ∧ (↑i : Int) < y.length) (.side (inR .u8 ((↑(UInt8.toNat (List.getD y (Int.toNat (↑i : Int)) (0 : UInt8))) : Int) - (48 : Int))) (.side (inR .u32 ((↑(UInt8.toNat (List.getD y (Int.toNat (↑i : Int)) (0 : UInt8))) : Int) - (48 : Int))) (.side (inR .u32 ((↑v : Int) * (10 : Int) + ((↑(UInt8.toNat (List.getD y (Int.toNat (↑i : Int)) (0 : UInt8))) : Int) - (48 : Int)))) (.side (inR .i64 ((↑i : Int) + (1 : Int))) (.leaf (.back 1 [(2, .ptr 0 0), (3, .ptr 1 0), (5, .str y), (6, .int .u32 ((↑v : Int) * (10 : Int) + ((↑(UInt8.toNat (List.getD y (Int.toNat (↑i : Int)) (0 : UInt8))) : Int) - (48 : Int)))), (16, .undef), (17, .undef), (19, .int .i64 y.length), (20, .int .i64 ((↑i : Int) + (1 : Int)))] [.box [.bool false, .nils], .box [.bool neg, .osl 4 1 0 (o.length + 1)], .box [.str b], .arr 1 1 (natG .u32 [d]), .arr (o.length + 1) 1 (natG .u32 (d :: o))])))))))) (.side (0 = 0 ∧ o.length + 1 ≤ o.length + 1 ∧ (o.length + 1 + 1) * 4 ≤ 140737488355328) (.leaf (.back 0 [(2, .ptr 0 0), (3, .ptr 1 0), (5, .str y), (6, .int .u32 v), (16, .undef), (17, .undef), (19, .int .i64 y.length), (20, .int .i64 i)] [.box [.bool false, .nils], .box [.bool neg, .osl 4 1 0 (o.length + 1 + 1)], .box [.str b], .arr 1 1 (natG .u32 [d]), .arr (o.length + 1 + 1) 1 (appG (o.length + 1) (natG .u32 (d :: o)) (zg (zj 1 [.int .u32 v]) 0)), .arr 1 1 (zj 1 [.int .u32 v])])))) (by kernel_rfl) ?_
   simp only [Tree.holds, zd, inR, lo, hi, Int.toNat_natCast, ei]
   refine ⟨fun hlt => ?_, fun hge => ?_⟩
   ·have hlt : i < y.length := by simp at hlt; omega
    have h1 := hdig hlt
    have h2 := hnb hlt
    have h3 := hnext hlt
    generalize (y.getD i 0).toNat = c at h1 h3 ⊢
    iterate 6 refine ⟨by omega, fun _ => ?_⟩
    rw [if_pos trivial]
    refine ⟨⟨i + 1, hlt⟩, by show y.length - (i + 1) < y.length - i; omega, ?_, by simp [HR, za], by kernel_rfl, by simp [HR]⟩
    simp [SR, h3]; omega
   ·have hge : i = y.length := by simp at hge; omega
    subst hge
    rw [List.take_length] at hv
    refine ⟨⟨trivial, Nat.le_refl _, by simp only [List.length_cons] at ho; omega⟩, fun _ => ?_⟩
    rw [if_neg (by decide), hv]
    refine ⟨by simp, ?_, by kernel_rfl, by simp [HR]⟩
    simp only [List.cons_append, HR]
    refine ⟨by simp, by simp, by simp, ⟨rfl, rfl, za _ _ _⟩, ⟨by simp, rfl, ?_⟩, trivial⟩
    have := xt (k := .u32) (l := d :: o) (v := ((v : Nat) : Int)) (by omega)
    simpa using this
theorem Vz {O : Nat → Prop} {W : World} {σ1 : List SE} (l : Nat) (neg : Bool) (b : List UInt8) (o : List Nat) (ho : o.length ≤ 1000000) (x : Grp) (X : Prop) (Hx : Heap) :
  j0 (some l) Tryd.prog (bare Tryd.f84) O 3 W σ1 (fun d kv' h' => LeK 3 Tryd.f84.ntmps [] h' [] (HR neg b (o ++ [decB x.1]))) (fun _ h' => X ∧ LeK 3 Tryd.f84.ntmps [] h' [] Hx) (roundOf K84 0) (mk Tryd.f84.ntmps ((5, .str x.1.data.toList) :: (17, .str x.1.data.toList) :: KR) (HR neg b o)) := by
 obtain ⟨x, hx9, hxd⟩ := x
 simp only
 have hxl : x.data.toList.length = x.size := by rw [Array.length_toList]; rfl
 have hdB : decB x = numD x.data.toList := rfl
 rw [hdB]
 generalize x.data.toList = y at hxd hxl
 have core : j0 (some l) Tryd.prog (bare Tryd.f84) O 3 W σ1 (fun d kv' h' => LeK 3 Tryd.f84.ntmps [] h' [] (HR neg b (o ++ [numD y]))) (fun _ h' => X ∧ LeK 3 Tryd.f84.ntmps [] h' [] Hx) (.code (.loop (lps (roundOf K84 0) 0).1) :: (lps (roundOf K84 0) 0).2)
   (mk Tryd.f84.ntmps [(2, .ptr 0 0), (3, .ptr 1 0), (5, .str y), (6, .int .u32 0), (16, .fn 108 [] [.ptr 2 0]), (17, .str y), (19, .int .i64 (y.length : Int)), (20, .int .i64 0)] (HR neg b o)) := by
  exact XA l neg b o ho y hxd (by omega) X Hx
 cases o with
 | nil =>
  refine zc.run hmix ZK [2, 3, 5, 6, 16, 17, 19, 20] 400 (T := .leaf (.loop (Prod.fst (lps (roundOf K84 0) 0)) (Prod.snd (lps (roundOf K84 0) 0)) [(2, .ptr 0 0), (3, .ptr 1 0), (5, .str y), (6, .int .u32 0), (16, .fn 108 [] [.ptr 2 0]), (17, .str y), (19, .int .i64 y.length), (20, .int .i64 0)] [.box [.bool false, .nils], .box [.bool neg, .nils], .box [.str b]])) (by kernel_rfl) ?_
  simp only [Tree.holds, zd]
  exact core
 | cons d o =>
  refine zc.run hmix ZK [2, 3, 5, 6, 16, 17, 19, 20] 400 (T := .leaf (.loop (Prod.fst (lps (roundOf K84 0) 0)) (Prod.snd (lps (roundOf K84 0) 0)) [(2, .ptr 0 0), (3, .ptr 1 0), (5, .str y), (6, .int .u32 0), (16, .fn 108 [] [.ptr 2 0]), (17, .str y), (19, .int .i64 y.length), (20, .int .i64 0)] [.box [.bool false, .nils], .box [.bool neg, .osl 4 1 0 (o.length + 1)], .box [.str b], .arr 1 1 (natG .u32 [d]), .arr (o.length + 1) 1 (natG .u32 (d :: o))])) (by kernel_rfl) ?_
  simp only [Tree.holds, zd]
  exact core
theorem YG (neg : Bool) (b : List UInt8) (o : List Nat) : ∀ x ∈ HR neg b o, alive x := by
 cases o with
 | nil => simp [HR, alive]
 | cons d o => simp [HR, alive]
theorem Xc {O : Nat → Prop} {w0 : World} {Q : AV × Heap → Prop} (neg : Bool) (b : List UInt8) (hb : allD b) (hb0 : b ≠ []) (hbl : b.length ≤ 1000000) (hq : Q (.agg [.bool neg, magS (numD b)], [])) :
  zc Tryd.prog Tryd.f84 O 0 w0 [] (fun _ _ _ => False) (RetR Yv 0 Q) (.code (rfs K84 0).1 :: (rfs K84 0).2) (mk Tryd.f84.ntmps KR (HR neg b [])) := by
 let s : ByteArray := ⟨b.toArray⟩
 have hsl : s.data.toList = b := rfl
 have hss : s.size = b.length := by simp [s, ByteArray.size]
 refine zc.range (tg := 16) (tp := 17) (td := 5) (α := Grp) (by kernel_rfl) (cap := [.ptr 2 0]) (enters_of Tryd.func108 (by kernel_rfl) rfl) (fun x => .str x.1.data.toList) (fun pre => HR neg b (pre.map fun x => decB x.1)) (fun _ => []) (fun _ => False) (fun xs => xs.map (·.1) = chunks s s.size) (fun pre => pre.map (·.1) <+: chunks s s.size) (chunks s s.size).length 3
  (by kernel_rfl) (by decide +kernel) (by decide +kernel) (fun x t c y h => by cases h) ⟨by simp [KR], by simp [HR], by kernel_rfl, Nat.zero_le _⟩ (by kernel_rfl) (Nat.zero_le _) (fun pre => YG _ _ _) (fun pre c hc => by cases hc) ?_ ?_ ?_ (fun _ _ h => h.elim)
 ·
  intro w σ a hm vb hvb
  simp only [RepL] at hvb
  obtain ⟨v, r, rfl, hv, rfl⟩ := hvb
  simp only [Rep] at hv
  obtain ⟨e, ad, he, had, rfl⟩ := hv
  have hcell : ∀ (W : World) (σ' : List SE) (o : List Nat), HRep (Go.Sx.Own O σ') W σ' (HR neg b o) → ∀ e' ad, σ'[2]? = some e' → e'.ad = some ad → W.cell? ⟨ad.block, ad.off + 0, none⟩ = some (.string s) := by
   intro W σ' o hp e' ad he' had'
   have hb2 : (HR neg b o)[2]? = some (.box [.str b]) := by cases o <;> rfl
   obtain ⟨ad', vs, el, h1, h2, h3, h4⟩ := hp.blk 2 e' _ he' hb2
   rw [had'] at h1; cases h1
   simp only [RepL, Rep] at h4
   obtain ⟨v, r, rfl, rfl, rfl⟩ := h4
   simp [World.cell?, h3, h2, s]
  refine ⟨fun W => W.cell? ⟨ad.block, ad.off + 0, none⟩ = some (.string s), fun x => .string x.1, ?_, ?_, ?_⟩
  ·exact Tryd.Zq (fun x => x.size ≤ 9 ∧ allD x.data.toList) ⟨ad.block, ad.off + 0, none⟩ s (VB s (hsl ▸ hb) s.size (Nat.le_refl _)) (by omega) w (hcell w σ [] hm.hp e ad he had)
  ·intro pre W σ' hM
   refine ⟨?_, fun x => by simp [Rep]⟩
   have ht := hM.tm 16
   have h16 : (mk Tryd.f84.ntmps KR (HR neg b (pre.map fun x => decB x.1))).tmps.getD 16 .undef = .fn 108 [] [.ptr 2 0] := by kernel_rfl
   have ht0 := hm.tm 16
   have h160 : (mk Tryd.f84.ntmps KR (HR neg b (([] : List Grp).map fun x => decB x.1))).tmps.getD 16 .undef = .fn 108 [] [.ptr 2 0] := by kernel_rfl
   rw [h16] at ht
   rw [h160] at ht0
   simp only [TRep, Rep, RepL] at ht ht0
   obtain ⟨va, vb', h1, _, v, r, h2, ⟨e1, ad1, h3, h4, h5⟩, h6⟩ := ht
   obtain ⟨va', vb2, g1, _, v', r', g2, ⟨e2, ad2, g3, g4, g5⟩, g6⟩ := ht0
   rw [he] at g3; cases g3
   rw [had] at g4; cases g4
   rw [g1] at h1
   simp only [Value.func.injEq] at h1
   have h7 : vb2 = vb' := by
    have := h1.2.2
    simpa using this
   rw [g2, h2, g5, h5] at h7
   simp only [List.cons.injEq, Value.pointer.injEq, Option.some.injEq] at h7
   have h8 := hcell W σ' _ hM.hp e1 ad1 h3 h4
   rw [← h7.1] at h8
   exact h8
  ·intro W l o o' hl ho hoc hK
   exact WG (grownBy_putObj' W l o') (fun r e => by cases e; exact ⟨o, ho, hoc⟩) hK
 ·
  intro l pre x hlen W σ1
  have hpl : (pre.map fun x => decB x.1).length ≤ 1000000 := by
   have := ue s s.size
   simp; omega
  have := Vz (O := O) (W := W) (σ1 := σ1) l neg b (pre.map fun x => decB x.1) hpl x False []
  simp only [List.map_append, List.map_cons, List.map_nil]
  exact this
 ·
  intro xs hxs
  have ho : xs.map (fun x => decB x.1) = (chunks s s.size).map decB := by rw [← hxs, List.map_map]; rfl
  have hv : val (xs.map fun x => decB x.1) = numD b := by
   rw [ho, Vf s s.size (Nat.le_refl _), List.take_of_length_le (by rw [Array.length_toList]; exact Nat.le_refl _)]
  have hdg : dig (xs.map fun x => decB x.1) := by
   intro d hd
   obtain ⟨x, _, rfl⟩ := List.mem_map.1 hd
   exact zad x.2.2 x.2.1
  have hpos : 0 < s.size := by rw [hss]; exact List.length_pos_iff.2 hb0
  have hle : (xs.map fun x => decB x.1).length ≤ 1000000 := by
   rw [ho, List.length_map]
   have := ue s s.size
   omega
  have hne : xs.map (fun x => decB x.1) ≠ [] := by
   rw [ho, wO s hpos]; simp
  generalize xs.map (fun x => decB x.1) = l at hv hdg hle hne
  cases l with
  | nil => exact absurd rfl hne
  | cons d o =>
   simp only [List.length_cons] at hle
   refine zc.run hmix ZK [2, 3, 5, 6, 16, 17, 19, 20] 400 (T := .ex (fun (u : List Nat) => u.length = o.length + 1 ∧ 0 + (o.length + 1) ≤ o.length + 1 ∧ o.length + 1 < 4611686018427387904 ∧ eqG (o.length + 1) 1 (natG .u32 (d :: o)) (natG .u32 u) ∧ dig (List.take (o.length + 1) (List.drop 0 u))) fun n => .all (fun (x : Nat) => x = val (List.take (o.length + 1) (List.drop 0 n))) fun n => .leaf (.ret [.agg [.bool neg, .osl 4 1 0 (canon n).length]] [.box [.bool neg, .osl 4 1 0 (canon n).length], .box [.bool neg, .osl 4 1 0 (canon n).length], .box [.str b], .arr 1 1 (natG .u32 [d]), .arr (o.length + 1) 1 (natG .u32 (d :: o))])) (by kernel_rfl) ?_
   simp only [Tree.holds, zd]
   have htk : (List.take (o.length + 1) (List.drop 0 (d :: o))) = d :: o := by simp
   refine ⟨d :: o, ⟨rfl, by omega, by omega, za _ _ _, by rw [htk]; exact hdg⟩, ⟨_, rfl⟩, ?_⟩
   intro X hX
   have hX : X = numD b := by rw [htk, hv] at hX; exact hX
   subst hX
   refine RetR.out0 hq (fun h => by cases h) ?_
   simp only [resV, exp2, exp1, List.map_cons, List.map_nil, exp0, ren0, z5, frz1, jQ, List.getElem?_cons_zero, List.getElem?_cons_succ, if_true, eqA2, eqA, eqL0, eqA0, magS, natS, true_and, and_true]
   exact jk (u := d :: o) (off := 0) (n := o.length + 1) (by simpa using hdg) (by simpa using hv)
theorem zbn : zb Tryd.prog 84 Yv := by
 refine ze (fn := Tryd.f84) (c := Tryd.f84.body.getD .skip) rfl rfl rfl fun p hp O w0 Q hq => ?_
 obtain ⟨neg, b⟩ := p
 obtain ⟨hb, hb0, hbl⟩ := hp
 replace hq := hq _ rfl
 simp only at hb hb0 hbl hq
 obtain ⟨s, hs⟩ : ∃ s, sgn neg b = s := ⟨_, rfl⟩
 simp only [hs]
 refine zc.run hmix ZK [2, 3, 5, 6, 16, 17, 19, 20] 400 (T := .side ((0 : Int) ≤ 0 ∧ (0 : Int) < s.length) (.ite (decide ((↑(UInt8.toNat (List.getD s 0 (0 : UInt8))) : Int) = 45)) (.side ((0 : Int) ≤ 1 ∧ (1 : Int) ≤ s.length) (.ex (fun (x : List UInt8) => eqL [AV.str (List.drop 1 (List.take s.length s))] [AV.str x] ∧ eqH [] [] ∧ 0 = 0 ∧ True) fun n => .all (fun (x : Unit) => True) fun n_1 => .leaf (.range (Prod.fst (rfs K84 0)) (Prod.snd (rfs K84 0)) [(2, .ptr 0 0), (3, .ptr 1 0), (5, .undef), (6, .undef), (16, .fn 108 [] [.ptr 2 0]), (17, .undef), (19, .undef), (20, .undef)] [.box [.bool false, .nils], .box [.bool true, .nils], .box [.str n]]))) (.ex (fun (x : List UInt8) => eqL [AV.str s] [AV.str x] ∧ eqH [] [] ∧ 0 = 0 ∧ True) fun n => .all (fun (x : Unit) => True) fun n_1 => .leaf (.range (Prod.fst (rfs K84 0)) (Prod.snd (rfs K84 0)) [(2, .ptr 0 0), (3, .ptr 1 0), (5, .undef), (6, .undef), (16, .fn 108 [] [.ptr 2 0]), (17, .undef), (19, .undef), (20, .undef)] [.box [.bool false, .nils], .box [.bool false, .nils], .box [.str n]])))) (by kernel_rfl) ?_
 subst hs
 have hmain := Xc (O := O) (w0 := w0) neg b hb hb0 hbl hq
 obtain ⟨c, b', rfl⟩ := List.exists_cons_of_ne_nil hb0
 have hc := hb c (by simp)
 simp only [Tree.holds, zd]
 cases neg with
 | true =>
  simp only [sgn, if_true]
  refine ⟨by simp; omega, fun _ => ⟨fun _ => ⟨by simp; omega, fun _ => ?_⟩, fun h => by simp at h⟩⟩
  refine ⟨c :: b', ⟨by simp, by simp, by simp⟩, ⟨(), trivial⟩, fun _ _ => hmain⟩
 | false =>
  simp only [sgn, Bool.false_eq_true, if_false]
  refine ⟨by simp, fun _ => ⟨fun h => ?_, fun _ => ?_⟩⟩
  ·simp at h; omega
  ·refine ⟨c :: b', ⟨by simp, by simp, by simp⟩, ⟨(), trivial⟩, fun _ _ => hmain⟩
end Go.Proofs.Tryd
end

/- The integers' texts: writing. -/
section
set_option maxRecDepth 100000
open Go Go.Sx Go.Proofs Go.Nov
namespace Go.Proofs.Tryd
attribute [local simp] eqKV eqA eqA0 eqH eqB eqL eqL0
noncomputable def K91 : List Go.Sx.Item := [.code (Tryd.f91.body.getD .skip)]
noncomputable def K74 : List Go.Sx.Item := [.code (Tryd.f74.body.getD .skip)]
def j8 (l : List Nat) (n i : Nat) : List Nat := (List.range l.length).map fun p => if p < n ∧ (p < i ∨ n - i ≤ p) then l.getD (n - 1 - p) 0 else l.getD p 0
theorem xW (l : List Nat) (n i : Nat) : (j8 l n i).length = l.length := by simp [j8]
theorem ZW {l : List Nat} {n i p : Nat} (h : p < l.length) : (j8 l n i).getD p 0 = if p < n ∧ (p < i ∨ n - i ≤ p) then l.getD (n - 1 - p) 0 else l.getD p 0 := by
 simp [j8, List.getD, h]
theorem W4 (l : List Nat) (n : Nat) : j8 l n 0 = l := by
 apply List.ext_getElem (by simp [j8])
 intro p h1 h2
 simp only [j8, List.getElem_map, List.getElem_range]
 rw [if_neg (by omega)]; simp [h2]
theorem WX {l : List Nat} {n i : Nat} (hn : n ≤ l.length) (hi2 : i < n - 1 - i) : ((j8 l n i).set i ((j8 l n i).getD (n - 1 - i) 0)).set (n - 1 - i) ((j8 l n i).getD i 0) = j8 l n (i + 1) := by
 rw [ZW (by omega), ZW (by omega), if_neg (by omega), if_neg (by omega)]
 apply List.ext_getElem (by simp [j8])
 intro p h1 h2
 rw [xW] at h2
 simp only [List.getElem_set, j8, List.getElem_map, List.getElem_range]
 by_cases ha : n - 1 - i = p
 ·rw [if_pos ha, if_pos (by omega)]; congr 1; omega
 ·rw [if_neg ha]
  by_cases hb : i = p
  ·subst hb; rw [if_pos rfl, if_pos (by omega)]
  ·rw [if_neg hb]
   by_cases hc : p < n ∧ (p < i ∨ n - i ≤ p)
   ·rw [if_pos hc, if_pos (by omega)]
   ·rw [if_neg hc, if_neg (by omega)]
theorem Xo {l : List Nat} {n i : Nat} (hn : n ≤ l.length) (hi2 : n - 1 - i ≤ i) : j8 l n i = (l.take n).reverse ++ l.drop n := by
 apply List.ext_getElem (by simp [j8]; omega)
 intro p h1 h2
 rw [xW] at h1
 simp only [j8, List.getElem_map, List.getElem_range]
 have hl : (l.take n).reverse.length = n := by simp; omega
 by_cases ha : p < n
 ·rw [List.getElem_append_left (by omega), List.getElem_reverse, List.getElem_take]
  have e : (l.take n).length - 1 - p = n - 1 - p := by simp; omega
  simp only [e]
  by_cases hc : p < i ∨ n - i ≤ p
  ·rw [if_pos ⟨ha, hc⟩]; simp [show n - 1 - p < l.length by omega]
  ·rw [if_neg (fun h => hc h.2)]
   have : n - 1 - p = p := by omega
   simp [this, h1]
 ·rw [if_neg (fun h => ha h.1), List.getElem_append_right (by omega)]
  simp only [hl, List.getElem_drop]
  have : n + (p - n) = p := by omega
  simp [this, h1]
def um : Ctr := ctrT false false (fun p : List Nat × Nat => [.osl 0 1 0 p.2]) (fun p => [.arr p.1.length 1 (natG .u8 p.1)]) (fun p => p.2 ≤ p.1.length ∧ p.1.length < 2 ^ 62) (fun _ (_ : Unit) => True) (fun p _ => (.tup [], [.arr p.1.length 1 (natG .u8 ((p.1.take p.2).reverse ++ p.1.drop p.2))]))
def SV (n i : Nat) : KV := [(0, .osl 0 1 0 n), (2, .int .i64 (i : Int)), (3, .int .i64 ((n : Int) - 1 - i))]
theorem WA : zb Tryd.prog 91 um := by
 refine zB (fn := Tryd.f91) (c := Tryd.f91.body.getD .skip) rfl rfl rfl (fun h => by cases h) fun p hp O w0 σ0 Q hl0 hq => ?_
 obtain ⟨l, n⟩ := p
 obtain ⟨hn, hl⟩ := hp
 replace hq := hq () trivial
 simp only at hn hl hq
 refine zc.run hmix zD [0, 2, 3] 400 (T := Tree.side (inR IntKind.i64 ((↑n : Int) - (1 : Int))) (Tree.leaf (jN.loop (Prod.fst (lps K91 (0 : Nat))) (Prod.snd (lps K91 (0 : Nat))) [((0 : Nat), AV.osl (0 : Nat) (1 : Nat) (0 : Nat) n), ((2 : Nat), AV.int IntKind.i64 (0 : Int)), ((3 : Nat), AV.int IntKind.i64 ((↑n : Int) - (1 : Int)))] [Blk.arr (List.length l) (1 : Nat) (natG IntKind.u8 l)]))) (by kernel_rfl) ?_
 simp only [Tree.holds, zd, inR, lo, hi]
 refine ⟨by omega, fun _ => ?_⟩
 refine zc.loop (ι := {i : Nat // i ≤ n}) (fun i => SV n i.1) (fun i => [.arr l.length 1 (natG .u8 (j8 l n i.1))]) (fun i => n - i.1) ⟨0, Nat.zero_le _⟩ 0 ?_ ?_ (by kernel_rfl)
 ·exact ⟨by simp [SV], by simp [W4, za], by kernel_rfl, Nat.le_refl _⟩
 ·rintro ⟨i, hin⟩
  obtain ⟨u, hu⟩ : ∃ u, j8 l n i = u := ⟨_, rfl⟩
  have hul : u.length = l.length := by rw [← hu, xW]
  simp only [hu, ← hul]
  refine zc.run hmix zD [0, 2, 3] 400 (T := Tree.ite (decide ((↑i : Int) < (↑n : Int) - (1 : Int) - (↑i : Int))) (Tree.side ((0 : Int) ≤ (↑n : Int) - (1 : Int) - (↑i : Int) ∧ (↑n : Int) - (1 : Int) - (↑i : Int) < (↑n : Int)) (Tree.side ((0 : Int) ≤ (↑i : Int) ∧ (↑i : Int) < (↑n : Int)) (Tree.side ((0 : Int) ≤ (↑i : Int) ∧ (↑i : Int) < (↑n : Int)) (Tree.side ((0 : Int) ≤ (↑n : Int) - (1 : Int) - (↑i : Int) ∧ (↑n : Int) - (1 : Int) - (↑i : Int) < (↑n : Int)) (Tree.side (inR IntKind.i64 ((↑i : Int) + (1 : Int))) (Tree.side (inR IntKind.i64 ((↑n : Int) - (1 : Int) - (↑i : Int) - (1 : Int))) (Tree.leaf (jN.back (0 : Nat) [((0 : Nat), AV.osl (0 : Nat) (1 : Nat) (0 : Nat) n), ((2 : Nat), AV.int IntKind.i64 ((↑i : Int) + (1 : Int))), ((3 : Nat), AV.int IntKind.i64 ((↑n : Int) - (1 : Int) - (↑i : Int) - (1 : Int)))] [Blk.arr (List.length u) (1 : Nat) (updG (updG (natG IntKind.u8 u) ((0 : Nat) + Int.toNat (↑i : Int)) (0 : Nat) [AV.int IntKind.u8 (↑(List.getD u ((0 : Nat) + Int.toNat ((↑n : Int) - (1 : Int) - (↑i : Int))) (0 : Nat)) : Int)]) ((0 : Nat) + Int.toNat ((↑n : Int) - (1 : Int) - (↑i : Int))) (0 : Nat) [AV.int IntKind.u8 (↑(List.getD u ((0 : Nat) + Int.toNat (↑i : Int)) (0 : Nat)) : Int)])])))))))) (Tree.leaf (jN.ret [] [Blk.arr (List.length u) (1 : Nat) (natG IntKind.u8 u)]))) (by kernel_rfl) ?_
  simp only [Tree.holds, zd, inR, lo, hi, Int.toNat_natCast]
  refine ⟨fun hlt => ?_, fun hge => ?_⟩
  ·have hlt : i < n - 1 - i := by simp at hlt; omega
   have ej : ((n : Int) - 1 - i).toNat = n - 1 - i := by omega
   rw [ej]
   iterate 6 refine ⟨by omega, fun _ => ?_⟩
   rw [if_pos trivial]
   have hs := WX (l := l) hn hlt
   rw [hu] at hs
   refine ⟨⟨i + 1, by omega⟩, by show n - (i + 1) < n - i; omega, by simp [SV]; omega, ?_, by kernel_rfl, Nat.le_refl _⟩
   rw [← hs]
   refine ⟨⟨rfl, rfl, ?_⟩, trivial⟩
   have h1 := wU (k := .u8) (l := u) (v := (u.getD (n - 1 - i) 0 : Nat)) (i := i) (by omega) (by omega)
   have h2 := wU (k := .u8) (l := u.set i (u.getD (n - 1 - i) 0)) (v := (u.getD i 0 : Nat)) (i := n - 1 - i) (by omega) (by simp; omega)
   simp only [List.length_set, Int.toNat_natCast] at h1 h2
   refine xM ?_ h2
   intro p o hp ho
   have := h1 p o hp ho
   simp only [updG, Nat.zero_add] at this ⊢
   split
   ·rfl
   ·exact this
  ·have hge : n - 1 - i ≤ i := by simp at hge; omega
   have hr := Xo (l := l) hn hge
   rw [hu] at hr
   refine ⟨[0], rfl, by simp, by simp, by simp [um, ctrT], .tup [], _, qi (by simp [resV, exp2, eqA2, eqL1]), ?_, rfl, hq⟩
   simp [expH, expB, hr, za]
   omega
def ve (neg : Bool) (x : Nat) : Blk := .box [.bool neg, magS x]
def SW (x i n : Nat) : KV := [(1, .ptr 0 0), (4, .osl 1 1 0 n), (6, .undef), (12, magS x), (13, .int .i64 ((canon x).length : Int)), (14, .int .i64 (i : Int)), (18, .undef)]
def SW2 (x i n g k : Nat) : KV := [(1, .ptr 0 0), (4, .osl 1 1 0 n), (6, .int .u32 (g : Int)), (12, magS x), (13, .int .i64 ((canon x).length : Int)), (14, .int .i64 (i : Int)), (18, .int .i64 (k : Int))]
noncomputable def G4 : Nat → Option Ctr := fun f => if f = 91 then some (um) else none
theorem VP : ∀ g c, G4 g = some c → zb Tryd.prog g c := okIf WA (zn)
theorem u4 (k : IntKind) (l : List Nat) (n : Nat) (hn : n ≤ l.length) : vP n (zg (natG k l) 0) = (l.take n).map UInt8.ofNat := by
 apply List.ext_getElem (by simp [vP]; omega)
 intro j h1 h2
 have hj : j < n := by simpa [vP] using h1
 simp [vP, zg, natG, Sx.byteOf, show j < l.length by omega]
def wb (x i : Nat) : List Nat := (decs (9 * i) (val ((canon x).take i))).map (48 + ·)
theorem Qz (x i : Nat) : (wb x i).length = 9 * i := by simp [wb, xE]
theorem K6 (i : Nat) : B ^ i = 10 ^ (9 * i) := by rw [Nat.pow_mul]
theorem zae {x i : Nat} (h : i < (canon x).length) : wb x i ++ (decs 9 ((canon x).getD i 0)).map (48 + ·) = wb x (i + 1) := by
 have h1 := zW (jc (zf x) i)
 rw [List.length_take, Nat.min_eq_left (by omega), K6] at h1
 simp only [wb]
 rw [← List.map_append, ← y6 _ _ _ _ h1, zl, K6]
 rfl
theorem Vu (x : Nat) : wb x (canon x).length = (dec x).map (48 + ·) ++ List.replicate (9 * (canon x).length - (dec x).length) 48 := by
 have h : x < 10 ^ (9 * (canon x).length) := by
  have := zW (zf x)
  rwa [zh, K6] at this
 simp only [wb, List.take_length, zh, US h, Ten.padN, List.map_append, List.map_replicate, dec]
def yL : Ctr := ctrP true (fun p : Bool × Nat => [.agg [.bool p.1, magS p.2]]) (fun p => (canon p.2).length < 1000000) (fun p r => r = wr p.1 p.2) (fun _ r => (.tup [.str r.1, .int .i64 r.2], []))
theorem KF {O : Nat → Prop} {w0 : World} {Q : AV × Heap → Prop} {Hs : Nat → KV → Heap → Prop} (neg : Bool) (x : Nat) (hx : (canon x).length < 1000000) (hx0 : x ≠ 0) (hq : Q (.tup [.str (wr neg x).1, .int .i64 (wr neg x).2], [])) (b : List Nat) (hb : b = wb x (canon x).length) :
  zc Tryd.prog Tryd.f74 O 0 w0 [] Hs (RetR yL 0 Q) (.code (.loop (lps (inside K74 0) 1).1) :: (lps (inside K74 0) 1).2) (mk Tryd.f74.ntmps (SW x (canon x).length b.length) [ve neg x, .arr b.length 1 (natG .u8 b)]) := by
 have hdl := QE hx0
 have hle : (dec x).length ≤ 9 * (canon x).length := by
  have := zW (zf x)
  rw [zh, K6] at this
  exact yP this
 have hbl : b.length = 9 * (canon x).length := by rw [hb, Qz]
 have hget : ∀ p, p < b.length → b.getD p 0 = 48 + (dec x).getD p 0 := by
  intro p hp
  rw [hb, Vu]
  by_cases h : p < (dec x).length
  ·rw [kU (by simpa using h), Xe (z := 0) h]
  ·rw [yN (by simpa using Nat.le_of_not_lt h), Uq (by simp; omega), XZ (Nat.le_of_not_lt h)]
 have htake : b.take (dec x).length = (dec x).map (48 + ·) := by
  rw [hb, Vu, List.take_append_of_le_length (by simp), List.take_of_length_le (by simp)]
 refine zc.loop (ι := {n : Nat // (dec x).length ≤ n ∧ n ≤ b.length}) (fun n => SW x (canon x).length n.1) (fun _ => [ve neg x, .arr b.length 1 (natG .u8 b)]) (fun n => n.1) ⟨b.length, by omega, Nat.le_refl _⟩ 0 ?_ ?_ (by kernel_rfl)
 ·exact ⟨by simp [SW, magS, natS, za], by simp [ve, magS, natS, za], by kernel_rfl, Nat.zero_le _⟩
 ·rintro ⟨n, hn1, hn2⟩
  obtain ⟨L, hL⟩ : ∃ L, (canon x).length = L := ⟨_, rfl⟩
  simp only [hL]
  refine zc.run hmix VP [1, 4, 6, 12, 13, 14, 18] 400 (T := Tree.side (inR IntKind.i64 ((↑n : Int) - (1 : Int))) (Tree.side ((0 : Int) ≤ (↑n : Int) - (1 : Int) ∧ (↑n : Int) - (1 : Int) < (↑n : Int)) (Tree.ite (decide ((↑(List.getD b ((0 : Nat) + Int.toNat ((↑n : Int) - (1 : Int))) (0 : Nat)) : Int) = (48 : Int))) (Tree.side (inR IntKind.i64 ((↑n : Int) - (1 : Int))) (Tree.side ((0 : Int) ≤ (↑n : Int) - (1 : Int) ∧ (↑n : Int) - (1 : Int) ≤ (↑n : Int)) (Tree.leaf (jN.back (0 : Nat) [((1 : Nat), AV.ptr (0 : Nat) (0 : Nat)), ((4 : Nat), AV.osl (1 : Nat) (1 : Nat) (0 : Nat) (Int.toNat ((↑n : Int) - (1 : Int)) - (0 : Nat))), ((6 : Nat), AV.undef), ((12 : Nat), AV.sl (List.length (canon x)) (1 : Nat) (natG IntKind.u32 (canon x))), ((13 : Nat), AV.int IntKind.i64 (↑(List.length (canon x)) : Int)), ((14 : Nat), AV.int IntKind.i64 (↑L : Int)), ((18 : Nat), AV.undef)] [Blk.box [AV.bool neg, AV.sl (List.length (canon x)) (1 : Nat) (natG IntKind.u32 (canon x))], Blk.arr (List.length b) (1 : Nat) (natG IntKind.u8 b)])))) (Tree.ite (decide ((1000 : Int) < (↑n : Int))) (Tree.leaf (jN.ret [AV.str (Array.toList #[]), AV.int IntKind.i64 (14 : Int)] [Blk.box [AV.bool neg, AV.sl (List.length (canon x)) (1 : Nat) (natG IntKind.u32 (canon x))], Blk.arr (List.length b) (1 : Nat) (natG IntKind.u8 b)])) (Tree.ite neg (Tree.side ((0 : Nat) = (0 : Nat) ∧ n ≤ List.length b ∧ (n + (1 : Nat)) * (1 : Nat) ≤ (140737488355328 : Nat)) (Tree.ex (fun (x : List Nat × Nat) => eqL [AV.osl (0 : Nat) (1 : Nat) (0 : Nat) (n + (1 : Nat))] [AV.osl (0 : Nat) (1 : Nat) (0 : Nat) (Prod.snd x)] ∧ eqH [Blk.arr (n + (1 : Nat)) (1 : Nat) (appG n (natG IntKind.u8 b) (zg (zj (1 : Nat) [AV.int IntKind.u8 (45 : Int)]) (0 : Nat)))] [Blk.arr (List.length (Prod.fst x)) (1 : Nat) (natG IntKind.u8 (Prod.fst x))] ∧ (1 : Nat) = (1 : Nat) ∧ Prod.snd x ≤ List.length (Prod.fst x) ∧ List.length (Prod.fst x) < (4611686018427387904 : Nat)) fun (n_1 : List Nat × Nat) => Tree.all (fun (x : Unit) => True) fun (n_2 : Unit) => Tree.side (∀ (j : Nat), j < n + (1 : Nat) → ∃ (b : UInt8), AV.int IntKind.u8 (↑(List.getD (List.reverse (List.take (Prod.snd n_1) (Prod.fst n_1)) ++ List.drop (Prod.snd n_1) (Prod.fst n_1)) ((0 : Nat) + j) (0 : Nat)) : Int) = AV.int IntKind.u8 (↑(UInt8.toNat b) : Int)) (Tree.leaf (jN.ret [AV.str (vP (n + (1 : Nat)) (zg (natG IntKind.u8 (List.reverse (List.take (Prod.snd n_1) (Prod.fst n_1)) ++ List.drop (Prod.snd n_1) (Prod.fst n_1))) (0 : Nat))), AV.int IntKind.i64 (0 : Int)] [Blk.box [AV.bool neg, AV.sl (List.length (canon x)) (1 : Nat) (natG IntKind.u32 (canon x))], Blk.arr (List.length (Prod.fst n_1)) (1 : Nat) (natG IntKind.u8 (List.reverse (List.take (Prod.snd n_1) (Prod.fst n_1)) ++ List.drop (Prod.snd n_1) (Prod.fst n_1))), Blk.arr (1 : Nat) (1 : Nat) (zj (1 : Nat) [AV.int IntKind.u8 (45 : Int)])])))) (Tree.ex (fun (x : List Nat × Nat) => eqL [AV.osl (0 : Nat) (1 : Nat) (0 : Nat) n] [AV.osl (0 : Nat) (1 : Nat) (0 : Nat) (Prod.snd x)] ∧ eqH [Blk.arr (List.length b) (1 : Nat) (natG IntKind.u8 b)] [Blk.arr (List.length (Prod.fst x)) (1 : Nat) (natG IntKind.u8 (Prod.fst x))] ∧ (1 : Nat) = (1 : Nat) ∧ Prod.snd x ≤ List.length (Prod.fst x) ∧ List.length (Prod.fst x) < (4611686018427387904 : Nat)) fun (n_1 : List Nat × Nat) => Tree.all (fun (x : Unit) => True) fun (n_2 : Unit) => Tree.side (∀ (j : Nat), j < n → ∃ (b : UInt8), AV.int IntKind.u8 (↑(List.getD (List.reverse (List.take (Prod.snd n_1) (Prod.fst n_1)) ++ List.drop (Prod.snd n_1) (Prod.fst n_1)) ((0 : Nat) + j) (0 : Nat)) : Int) = AV.int IntKind.u8 (↑(UInt8.toNat b) : Int)) (Tree.leaf (jN.ret [AV.str (vP n (zg (natG IntKind.u8 (List.reverse (List.take (Prod.snd n_1) (Prod.fst n_1)) ++ List.drop (Prod.snd n_1) (Prod.fst n_1))) (0 : Nat))), AV.int IntKind.i64 (0 : Int)] [Blk.box [AV.bool neg, AV.sl (List.length (canon x)) (1 : Nat) (natG IntKind.u32 (canon x))], Blk.arr (List.length (Prod.fst n_1)) (1 : Nat) (natG IntKind.u8 (List.reverse (List.take (Prod.snd n_1) (Prod.fst n_1)) ++ List.drop (Prod.snd n_1) (Prod.fst n_1)))])))))))) (by kernel_rfl) ?_
  have e1 : ((n : Int) - 1).toNat = n - 1 := by omega
  have e2 : 0 + (n - 1) = n - 1 := by omega
  have e3 : n - 1 - 0 = n - 1 := by omega
  simp only [Tree.holds, zd, inR, lo, hi, e1, e2, e3]
  have hg := hget (n - 1) (by omega)
  rw [hg]
  iterate 2 refine ⟨by omega, fun _ => ?_⟩
  refine ⟨fun hz => ?_, fun hnz => ⟨fun hbig => ?_, fun hsm => ?_⟩⟩
  ·have hz : (dec x).getD (n - 1) 0 = 0 := by simp at hz ⊢; omega
   have hne : n ≠ (dec x).length := by
    rintro rfl
    exact Ki hdl hz
   iterate 2 refine ⟨by omega, fun _ => ?_⟩
   rw [if_pos trivial]
   exact ⟨⟨n - 1, by omega, by omega⟩, by show n - 1 < n; omega, by simp [SW, magS, natS, za], by simp [ve, magS, natS, za], by kernel_rfl, Nat.zero_le _⟩
  ·have hn : n = (dec x).length := by
    rcases Nat.lt_or_ge (dec x).length n with h | h
    ·have : (dec x).getD (n - 1) 0 = 0 := by simp [List.getD, List.getElem?_eq_none (show (dec x).length ≤ n - 1 by omega)]
     rw [this] at hnz; simp at hnz
    ·omega
   subst hn
   have hbig : 1000 < (dec x).length := by simp at hbig; omega
   simp only [wr, if_neg hx0, if_pos hbig] at hq
   exact RetR.scal hq rfl rfl
  ·have hn : n = (dec x).length := by
    rcases Nat.lt_or_ge (dec x).length n with h | h
    ·have : (dec x).getD (n - 1) 0 = 0 := by simp [List.getD, List.getElem?_eq_none (show (dec x).length ≤ n - 1 by omega)]
     rw [this] at hnz; simp at hnz
    ·omega
   subst hn
   have hsm : ¬ 1000 < (dec x).length := by simp at hsm; omega
   simp only [wr, if_neg hx0, if_neg hsm] at hq
   have hbyte : ∀ (l : List Nat) (k : Nat), (∀ d ∈ l, d < 256) → ∀ j, j < k → ∃ c : UInt8, AV.int .u8 ((l.getD (0 + j) 0 : Nat) : Int) = .int .u8 (c.toNat : Int) := by
    intro l k hl j hj
    rw [Nat.zero_add]
    have : l.getD j 0 < 256 := by
     by_cases h : j < l.length
     ·have := hl l[j] (List.getElem_mem h)
      simpa [List.getD, h] using this
     ·simp [List.getD, List.getElem?_eq_none (Nat.le_of_not_lt h)]
    refine ⟨UInt8.ofNat (l.getD j 0), ?_⟩
    simp only [AV.int.injEq, true_and]
    rw [UInt8.toNat_ofNat', Nat.mod_eq_of_lt this]
   have hb256 : ∀ d ∈ b, d < 256 := by
    intro d hd
    rw [hb, Vu] at hd
    rcases List.mem_append.1 hd with hd | hd
    ·obtain ⟨y, hy, rfl⟩ := List.mem_map.1 hd
     have := Ten.zf x y hy
     simp only [Ten.B] at this
     omega
    ·have := (List.mem_replicate.1 hd).2; omega
   have htx : ((b.take (dec x).length).reverse).map UInt8.ofNat = txt x := by
    rw [htake, txt, if_neg hx0, List.map_reverse, List.map_map]; rfl
   refine ⟨fun hneg => ?_, fun hneg => ?_⟩
   ·subst hneg
    refine ⟨⟨trivial, hn2, by omega⟩, fun _ => ?_⟩
    have hal : (b.take (dec x).length ++ [45]).length = (dec x).length + 1 := by simp; omega
    refine ⟨(b.take (dec x).length ++ [45], (dec x).length + 1), ⟨by simp, ?_, by simp, by simp only [hal]; omega, by simp only [hal]; omega⟩, ⟨(), trivial⟩, fun _ _ => ⟨?_, fun _ => ?_⟩⟩
    ·simp only [eqH, eqB, hal]
     refine ⟨⟨trivial, trivial, ?_⟩, trivial⟩
     intro j o hj ho
     have : o = 0 := by omega
     subst this
     simp only [appG, zg, zj, natG]
     have hl : (b.take (dec x).length).length = (dec x).length := by simp; omega
     by_cases h : j < (dec x).length
     ·rw [if_pos h, kU (by omega), VY h]
     ·have : j = (dec x).length := by omega
      subst this
      rw [if_neg (by omega), yN (by omega), hl, Nat.sub_self]
      rfl
    ·refine hbyte _ _ ?_
     intro d hd
     simp only [List.mem_append, List.mem_reverse] at hd
     rcases hd with hd | hd
     ·have := List.mem_of_mem_take hd
      rcases List.mem_append.1 this with h | h
      ·exact hb256 d (List.mem_of_mem_take h)
      ·simp at h; omega
     ·have := List.mem_of_mem_drop hd
      rcases List.mem_append.1 this with h | h
      ·exact hb256 d (List.mem_of_mem_take h)
      ·simp at h; omega
    ·refine RetR.scal hq rfl ?_
     simp only [resV]
     rw [u4 _ _ _ (by simp; omega)]
     have ht : List.take ((dec x).length + 1) (b.take (dec x).length ++ [45]) = b.take (dec x).length ++ [45] := List.take_of_length_le (by omega)
     rw [ht, List.take_append_of_le_length (by simp; omega), List.take_of_length_le (by simp; omega), List.reverse_append, List.map_append, htx]
     simp [sgn]
   ·subst hneg
    refine ⟨(b, (dec x).length), ⟨by simp, by simp [za], by simp, hn2, by simp only [hbl]; omega⟩, ⟨(), trivial⟩, fun _ _ => ⟨?_, fun _ => ?_⟩⟩
    ·refine hbyte _ _ ?_
     intro d hd
     simp only [List.mem_append, List.mem_reverse] at hd
     rcases hd with hd | hd
     ·exact hb256 d (List.mem_of_mem_take hd)
     ·exact hb256 d (List.mem_of_mem_drop hd)
    ·refine RetR.scal hq rfl ?_
     simp only [resV]
     have hrl : ((b.take (dec x).length).reverse).length = (dec x).length := by simp; omega
     rw [u4 _ _ _ (by rw [List.length_append, hrl]; omega), List.take_append_of_le_length (by omega), List.take_of_length_le (by omega), htx]
     simp [sgn]
theorem u9 : zb Tryd.prog 74 yL := by
 refine ze (fn := Tryd.f74) (c := Tryd.f74.body.getD .skip) rfl rfl rfl fun p hp O w0 Q hq => ?_
 obtain ⟨neg, x⟩ := p
 replace hq := hq _ rfl
 simp only at hp hq
 refine zc.run hmix VP [1, 4, 6, 12, 13, 14, 18] 400 (T := Tree.ite (decide ((↑(List.length (canon x)) : Int) = (0 : Int))) (Tree.leaf (jN.ret [AV.str (Array.toList #[(48 : UInt8)]), AV.int IntKind.i64 (0 : Int)] [Blk.box [AV.bool neg, AV.sl (List.length (canon x)) (1 : Nat) (natG IntKind.u32 (canon x))]])) (Tree.leaf (jN.loop (Prod.fst (lps K74 (0 : Nat))) (Prod.snd (lps K74 (0 : Nat))) [((1 : Nat), AV.ptr (0 : Nat) (0 : Nat)), ((4 : Nat), AV.nils), ((6 : Nat), AV.undef), ((12 : Nat), AV.sl (List.length (canon x)) (1 : Nat) (natG IntKind.u32 (canon x))), ((13 : Nat), AV.int IntKind.i64 (↑(List.length (canon x)) : Int)), ((14 : Nat), AV.int IntKind.i64 (0 : Int)), ((18 : Nat), AV.undef)] [Blk.box [AV.bool neg, AV.sl (List.length (canon x)) (1 : Nat) (natG IntKind.u32 (canon x))]]))) (by kernel_rfl) ?_
 simp only [Tree.holds, zd, inR, lo, hi]
 refine ⟨fun h0 => ?_, fun h0 => ?_⟩
 ·have h0 : x = 0 := by
   rcases Nat.eq_zero_or_pos x with h | h
   ·exact h
   ·have := jh (x := x) (n := 0) (by simp; omega)
    simp at h0; rw [h0] at this; simp at this
  subst h0
  refine RetR.scal hq rfl ?_
  simp [resV, wr]
 ·have hx0 : x ≠ 0 := by
   rintro rfl
   simp [z8] at h0
  refine zc.bear 4 1 (natG .u8 []) (by kernel_rfl) (by decide +kernel) (by kernel_rfl) ?_
  refine zc.loop (ι := {i : Nat // i ≤ (canon x).length}) (fun i => SW x i.1 (wb x i.1).length) (fun i => [ve neg x, .arr (wb x i.1).length 1 (natG .u8 (wb x i.1))]) (fun i => (canon x).length - i.1) ⟨0, Nat.zero_le _⟩ 0 ?_ ?_ (by kernel_rfl)
  ·exact ⟨by simp [ZU, SW, magS, natS, za, Qz], by simp [ve, magS, natS, za, Qz, eqG], by kernel_rfl, Nat.zero_le _⟩
  ·rintro ⟨i, hil⟩
   obtain ⟨b, hb⟩ : ∃ b, wb x i = b := ⟨_, rfl⟩
   simp only [hb]
   refine zc.run hmix VP [1, 4, 6, 12, 13, 14, 18] 400 (T := Tree.ite (decide ((↑i : Int) < (↑(List.length (canon x)) : Int))) (Tree.side ((0 : Int) ≤ (↑i : Int) ∧ (↑i : Int) < (↑(List.length (canon x)) : Int)) (Tree.leaf (jN.loop (Prod.fst (lps (inside K74 (0 : Nat)) (0 : Nat))) (Prod.snd (lps (inside K74 (0 : Nat)) (0 : Nat))) [((1 : Nat), AV.ptr (0 : Nat) (0 : Nat)), ((4 : Nat), AV.osl (1 : Nat) (1 : Nat) (0 : Nat) (List.length b)), ((6 : Nat), AV.int IntKind.u32 (↑(List.getD (canon x) (Int.toNat (↑i : Int)) (0 : Nat)) : Int)), ((12 : Nat), AV.sl (List.length (canon x)) (1 : Nat) (natG IntKind.u32 (canon x))), ((13 : Nat), AV.int IntKind.i64 (↑(List.length (canon x)) : Int)), ((14 : Nat), AV.int IntKind.i64 (↑i : Int)), ((18 : Nat), AV.int IntKind.i64 (0 : Int))] [Blk.box [AV.bool neg, AV.sl (List.length (canon x)) (1 : Nat) (natG IntKind.u32 (canon x))], Blk.arr (List.length b) (1 : Nat) (natG IntKind.u8 b)]))) (Tree.leaf (jN.loop (Prod.fst (lps (inside K74 (0 : Nat)) (1 : Nat))) (Prod.snd (lps (inside K74 (0 : Nat)) (1 : Nat))) [((1 : Nat), AV.ptr (0 : Nat) (0 : Nat)), ((4 : Nat), AV.osl (1 : Nat) (1 : Nat) (0 : Nat) (List.length b)), ((6 : Nat), AV.undef), ((12 : Nat), AV.sl (List.length (canon x)) (1 : Nat) (natG IntKind.u32 (canon x))), ((13 : Nat), AV.int IntKind.i64 (↑(List.length (canon x)) : Int)), ((14 : Nat), AV.int IntKind.i64 (↑i : Int)), ((18 : Nat), AV.undef)] [Blk.box [AV.bool neg, AV.sl (List.length (canon x)) (1 : Nat) (natG IntKind.u32 (canon x))], Blk.arr (List.length b) (1 : Nat) (natG IntKind.u8 b)]))) (by kernel_rfl) ?_
   simp only [Tree.holds, zd, inR, lo, hi, Int.toNat_natCast]
   refine ⟨fun hlt => ⟨by simp at hlt; omega, fun _ => ?_⟩, fun hge => ?_⟩
   ·have hlt : i < (canon x).length := by simp at hlt; omega
    obtain ⟨g, hg⟩ : ∃ g, (canon x).getD i 0 = g := ⟨_, rfl⟩
    have hgB : g < 1000000000 := hg ▸ zC (zf x) i
    have hstep := zae hlt
    have hbl : b.length = 9 * i := by rw [← hb, Qz]
    rw [hb, hg] at hstep
    rw [hg]
    refine zc.loop (ι := {k : Nat // k ≤ 9}) (fun k => SW2 x i (b ++ (decs k.1 g).map (48 + ·)).length (g / 10 ^ k.1) k.1) (fun k => [ve neg x, .arr (b ++ (decs k.1 g).map (48 + ·)).length 1 (natG .u8 (b ++ (decs k.1 g).map (48 + ·)))]) (fun k => 9 - k.1) ⟨0, Nat.zero_le _⟩ 1 ?_ ?_ (by kernel_rfl)
    ·exact ⟨by simp [SW2, magS, natS, za, decs], by simp [ve, magS, natS, za, decs], by kernel_rfl, Nat.zero_le _⟩
    ·rintro ⟨k, hk⟩
     obtain ⟨c, hc⟩ : ∃ c, b ++ (decs k g).map (48 + ·) = c := ⟨_, rfl⟩
     obtain ⟨q, hqv⟩ : ∃ q, g / 10 ^ k = q := ⟨_, rfl⟩
     have hqB : q < 1000000000 := by rw [← hqv]; exact Nat.lt_of_le_of_lt (Nat.div_le_self _ _) hgB
     have hcl : c.length = 9 * i + k := by rw [← hc]; simp [xE, hbl]
     have hnext : b ++ (decs (k + 1) g).map (48 + ·) = c ++ [48 + q % 10] := by
      rw [ZB, List.map_append, ← List.append_assoc, hc, hqv]; rfl
     have hqn : g / 10 ^ (k + 1) = q / 10 := by rw [Nat.pow_succ, ← Nat.div_div_eq_div_mul, hqv]
     simp only [hc, hqv]
     refine zc.run hmix VP [1, 4, 6, 12, 13, 14, 18] 400 (T := Tree.ite (decide ((↑k : Int) < (9 : Int))) (Tree.side ((10 : Int) ≠ (0 : Int)) (Tree.side (inR IntKind.u32 ((48 : Int) + Int.tmod (↑q : Int) (10 : Int))) (Tree.side (inR IntKind.u8 ((48 : Int) + Int.tmod (↑q : Int) (10 : Int))) (Tree.side ((0 : Nat) = (0 : Nat) ∧ List.length c ≤ List.length c ∧ (List.length c + (1 : Nat)) * (1 : Nat) ≤ (140737488355328 : Nat)) (Tree.side ((10 : Int) ≠ (0 : Int) ∧ inR IntKind.u32 (Int.tdiv (↑q : Int) (10 : Int))) (Tree.side (inR IntKind.i64 ((↑k : Int) + (1 : Int))) (Tree.leaf (jN.back (1 : Nat) [((1 : Nat), AV.ptr (0 : Nat) (0 : Nat)), ((4 : Nat), AV.osl (1 : Nat) (1 : Nat) (0 : Nat) (List.length c + (1 : Nat))), ((6 : Nat), AV.int IntKind.u32 (Int.tdiv (↑q : Int) (10 : Int))), ((12 : Nat), AV.sl (List.length (canon x)) (1 : Nat) (natG IntKind.u32 (canon x))), ((13 : Nat), AV.int IntKind.i64 (↑(List.length (canon x)) : Int)), ((14 : Nat), AV.int IntKind.i64 (↑i : Int)), ((18 : Nat), AV.int IntKind.i64 ((↑k : Int) + (1 : Int)))] [Blk.box [AV.bool neg, AV.sl (List.length (canon x)) (1 : Nat) (natG IntKind.u32 (canon x))], Blk.arr (List.length c + (1 : Nat)) (1 : Nat) (appG (List.length c) (natG IntKind.u8 c) (zg (zj (1 : Nat) [AV.int IntKind.u8 ((48 : Int) + Int.tmod (↑q : Int) (10 : Int))]) (0 : Nat))), Blk.arr (1 : Nat) (1 : Nat) (zj (1 : Nat) [AV.int IntKind.u8 ((48 : Int) + Int.tmod (↑q : Int) (10 : Int))])])))))))) (Tree.side (inR IntKind.i64 ((↑i : Int) + (1 : Int))) (Tree.leaf (jN.back (0 : Nat) [((1 : Nat), AV.ptr (0 : Nat) (0 : Nat)), ((4 : Nat), AV.osl (1 : Nat) (1 : Nat) (0 : Nat) (List.length c)), ((6 : Nat), AV.int IntKind.u32 (↑q : Int)), ((12 : Nat), AV.sl (List.length (canon x)) (1 : Nat) (natG IntKind.u32 (canon x))), ((13 : Nat), AV.int IntKind.i64 (↑(List.length (canon x)) : Int)), ((14 : Nat), AV.int IntKind.i64 ((↑i : Int) + (1 : Int))), ((18 : Nat), AV.int IntKind.i64 (↑k : Int))] [Blk.box [AV.bool neg, AV.sl (List.length (canon x)) (1 : Nat) (natG IntKind.u32 (canon x))], Blk.arr (List.length c) (1 : Nat) (natG IntKind.u8 c)])))) (by kernel_rfl) ?_
     have e10 : (10 : Int) = ((10 : Nat) : Int) := rfl
     have em : Int.tmod (q : Int) 10 = ((q % 10 : Nat) : Int) := by rw [e10, VJ]
     have ed : Int.tdiv (q : Int) 10 = ((q / 10 : Nat) : Int) := by rw [e10, Kl]
     simp only [Tree.holds, zd, inR, lo, hi, em, ed]
     refine ⟨fun hlt2 => ?_, fun hge2 => ?_⟩
     ·have hlt2 : k < 9 := by simp at hlt2; omega
      refine ⟨by decide, fun _ => ⟨by omega, fun _ => ⟨by omega, fun _ => ⟨⟨trivial, Nat.le_refl _, by omega⟩, fun _ => ⟨⟨by decide, by omega, by omega⟩, fun _ => ⟨by omega, fun _ => ?_⟩⟩⟩⟩⟩⟩
      rw [if_pos trivial]
      refine ⟨⟨k + 1, by omega⟩, by show 9 - (k + 1) < 9 - k; omega, ?_, ?_, by kernel_rfl, Nat.zero_le _⟩
      ·simp [SW2, hnext, hqn, magS, natS, za]
      ·simp only [hnext]
       refine ⟨by simp [ve, magS, natS, za], ⟨by simp, rfl, ?_⟩, trivial⟩
       have := xt (k := .u8) (l := c) (v := 48 + ((q % 10 : Nat) : Int)) (by omega)
       rw [show (48 + ((q % 10 : Nat) : Int)).toNat = 48 + q % 10 by omega] at this
       exact this
     ·have hge2 : k = 9 := by simp at hge2; omega
      subst hge2
      refine ⟨by omega, fun _ => ?_⟩
      rw [if_neg (by decide), if_pos trivial]
      have hcw : c = wb x (i + 1) := by rw [← hc, hstep]
      exact ⟨⟨i + 1, hlt⟩, by show _ - (i + 1) < _ - i; omega, by simp [SW, hcw, magS, natS, za], by simp [hcw, ve, magS, natS, za], by kernel_rfl, Nat.zero_le _⟩
   ·have hge : i = (canon x).length := by simp at hge; omega
    subst hge
    exact KF neg x hp hx0 hq b hb.symm
end Go.Proofs.Tryd
end

/- The integers' texts: Check, pair, Gcd. -/
section
set_option maxRecDepth 100000
open Go Go.Sx Go.Proofs Go.Nov
namespace Go.Proofs.Tryd
attribute [local simp] eqKV eqA eqA0 eqH eqB eqL eqL0
noncomputable def K59 : List Go.Sx.Item := [.code (Tryd.f59.body.getD .skip)]
noncomputable def K60 : List Go.Sx.Item := [.code (Tryd.f60.body.getD .skip)]
theorem uy (c : UInt8) : (if decide ((c.toNat : Int) < 48) = true then true else decide (57 < (c.toNat : Int))) = !isD c := by
 simp only [isD]
 by_cases h : c.toNat < 48
 ·rw [if_pos (by simp; omega)]; simp; omega
 ·rw [if_neg (by simp; omega)]
  by_cases h2 : c.toNat ≤ 57
  ·have : decide (57 < (c.toNat : Int)) = false := by simp; omega
   rw [this]; simp; omega
  ·have : decide (57 < (c.toNat : Int)) = true := by simp; omega
   rw [this]; simp; omega
def uY : Ctr := ctrP true (fun s : List UInt8 => [.str s]) (fun s => s.length < 2 ^ 62) (fun s r => r = errI s) (fun _ r => (.int .i64 r, []))
def SCk (b : List UInt8) (i : Nat) : KV := [(3, .str b), (31, .int .i64 (b.length : Int)), (32, .int .i64 (i : Int)), (40, .undef), (41, .undef), (42, .undef), (43, .undef)]
theorem Zg {O : Nat → Prop} {w0 : World} {Q : AV × Heap → Prop} {neg : Bool} (b : List UInt8) (hb : b.length < 2 ^ 62) (hf : b.all isD = true → j4 neg b = true)
  (hq : Q (.int .i64 (if j4 neg b then (if 1000 < b.length then 14 else 0) else 12), [])) :
  zc Tryd.prog Tryd.f59 O 0 w0 [] (fun _ _ _ => False) (RetR uY 0 Q) (.code (.loop (lps K59 0).1) :: (lps K59 0).2) (mk Tryd.f59.ntmps (SCk b 0) []) := by
 refine zc.loop (ι := {i : Nat // i ≤ b.length ∧ ∀ j, j < i → isD (b.getD j 0) = true}) (fun i => SCk b i.1) (fun _ => []) (fun i => b.length - i.1) ⟨0, Nat.zero_le _, fun j hj => by omega⟩ 0 ?_ ?_ (by kernel_rfl)
 ·exact ⟨by simp [SCk], by simp, by kernel_rfl, Nat.zero_le _⟩
 ·rintro ⟨i, hil, hid⟩
  refine zc.run hmix zD [3, 31, 32, 40, 41, 42, 43] 400 (T := .ite (decide ((↑i : Int) < b.length)) (.side ((0 : Int) ≤ i ∧ (↑i : Int) < b.length) (.side (decide ((↑(UInt8.toNat (List.getD b (Int.toNat (↑i : Int)) (0 : UInt8))) : Int) < 48) = false → (0 : Int) ≤ i ∧ (↑i : Int) < b.length) (.ite (bif decide ((↑(UInt8.toNat (List.getD b (Int.toNat (↑i : Int)) (0 : UInt8))) : Int) < 48) then true else decide ((57 : Int) < (↑(UInt8.toNat (List.getD b (Int.toNat (↑i : Int)) (0 : UInt8))) : Int))) (.leaf (.ret [.int .i64 12] [])) (.side (inR .i64 ((↑i : Int) + (1 : Int))) (.leaf (.back 0 [(3, .str b), (31, .int .i64 b.length), (32, .int .i64 ((↑i : Int) + (1 : Int))), (40, .undef), (41, .undef), (42, .undef), (43, .undef)] [])))))) (.ite (decide ((1000 : Int) < b.length)) (.leaf (.ret [.int .i64 14] [])) (.leaf (.ret [.int .i64 0] [])))) (by kernel_rfl) ?_
  simp only [Tree.holds, zd, inR, lo, hi, Int.toNat_natCast, Bool.cond_eq_ite]
  refine ⟨fun hlt => ?_, fun hge => ⟨fun hbig => ?_, fun hsm => ?_⟩⟩
  ·have hlt : i < b.length := by simp at hlt; omega
   refine ⟨by omega, fun _ => ⟨fun _ => by omega, fun _ => ⟨fun hbad => ?_, fun hgood => ⟨by omega, fun _ => ?_⟩⟩⟩⟩
   ·have hnd : isD (b.getD i 0) = false := by
     rw [uy] at hbad
     simpa using hbad
    have hnf : j4 neg b = false := by
     have : b.all isD = false := by
      rw [List.all_eq_false]
      refine ⟨b.getD i 0, by simp [List.getD, hlt], by simpa using hnd⟩
     simp [j4, this]
    rw [hnf] at hq
    exact RetR.scal hq rfl (by simp [resV])
   ·have hd : isD (b.getD i 0) = true := by
     rw [uy] at hgood
     simpa using hgood
    rw [if_pos trivial]
    refine ⟨⟨i + 1, hlt, fun j hj => ?_⟩, by show b.length - (i + 1) < b.length - i; omega, by simp [SCk], by simp, by kernel_rfl, Nat.zero_le _⟩
    rcases Nat.lt_or_ge j i with h | h
    ·exact hid j h
    ·have : j = i := by omega
     subst this; exact hd
  all_goals
   have hge : i = b.length := by simp at hge; omega
   have hall : b.all isD = true := by
    rw [List.all_eq_true]
    intro c hc
    obtain ⟨j, hj, rfl⟩ := List.getElem_of_mem hc
    have := hid j (by omega)
    simpa [List.getD, hj] using this
   rw [hf hall] at hq
  ·rw [if_pos rfl, if_pos (by simp at hbig; omega)] at hq
   exact RetR.scal hq rfl (by simp [resV])
  ·rw [if_pos rfl, if_neg (by simp at hsm; omega)] at hq
   exact RetR.scal hq rfl (by simp [resV])
theorem uB : zb Tryd.prog 59 uY := by
 refine ze (fn := Tryd.f59) (c := Tryd.f59.body.getD .skip) rfl rfl rfl fun s hs O w0 Q hq => ?_
 replace hq := hq _ rfl
 refine zc.run hmix zD [3, 31, 32, 40, 41, 42, 43] 400 (T := .side (decide ((0 : Int) < s.length) = true → (0 : Int) ≤ 0 ∧ (0 : Int) < s.length) (.ite (bif decide ((0 : Int) < s.length) then decide ((↑(UInt8.toNat (List.getD s 0 (0 : UInt8))) : Int) = 45) else false) (.side ((0 : Int) ≤ 1 ∧ (1 : Int) ≤ s.length) (.ite (decide (List.drop 1 (List.take s.length s) = Array.toList #[(48 : UInt8)])) (.leaf (.ret [.int .i64 12] [])) (.side (decide (List.drop 1 (List.take s.length s) = Array.toList #[]) = false → (0 : Int) ≤ 0 ∧ (0 : Int) < (↑(List.length (List.drop 1 (List.take s.length s))) : Int)) (.ite (bif decide (List.drop 1 (List.take s.length s) = Array.toList #[]) then true else bif decide ((↑(UInt8.toNat (List.getD (List.drop 1 (List.take s.length s)) 0 (0 : UInt8))) : Int) = 48) then decide ((1 : Int) < (↑(List.length (List.drop 1 (List.take s.length s))) : Int)) else false) (.leaf (.ret [.int .i64 12] [])) (.leaf (.loop (Prod.fst (lps K59 0)) (Prod.snd (lps K59 0)) [(3, .str (List.drop 1 (List.take s.length s))), (31, .int .i64 (↑(List.length (List.drop 1 (List.take s.length s))) : Int)), (32, .int .i64 0), (40, .undef), (41, .undef), (42, .undef), (43, .undef)] [])))))) (.side (decide (s = Array.toList #[]) = false → (0 : Int) ≤ 0 ∧ (0 : Int) < s.length) (.ite (bif decide (s = Array.toList #[]) then true else bif decide ((↑(UInt8.toNat (List.getD s 0 (0 : UInt8))) : Int) = 48) then decide ((1 : Int) < s.length) else false) (.leaf (.ret [.int .i64 12] [])) (.leaf (.loop (Prod.fst (lps K59 0)) (Prod.snd (lps K59 0)) [(3, .str s), (31, .int .i64 s.length), (32, .int .i64 0), (40, .undef), (41, .undef), (42, .undef), (43, .undef)] [])))))) (by kernel_rfl) ?_
 simp only [Tree.holds, zd, inR, lo, hi, Bool.cond_eq_ite]
 cases s with
 | nil =>
  simp only [errI, parse, j4] at hq
  refine ⟨by simp, fun _ => ⟨fun h => by simp at h, fun _ => ⟨by simp, fun _ => ⟨fun _ => ?_, fun h => by simp at h⟩⟩⟩⟩
  exact RetR.scal hq rfl (by simp [resV])
 | cons c b =>
  refine ⟨by simp, fun _ => ⟨fun h => ?_, fun h => ?_⟩⟩
  ·have hc : c = 45 := by
    simp at h
    have : c.toNat = 45 := by omega
    exact UInt8.toNat_inj.1 this
   subst hc
   have hp : parse (45 :: b) = (true, b) := rfl
   have hd : List.drop 1 (List.take (45 :: b).length (45 :: b)) = b := by simp
   rw [hd]
   simp only [errI, hp] at hq
   refine ⟨by simp; omega, fun _ => ⟨fun h0 => ?_, fun h0 => ⟨fun hne => ?_, fun _ => ⟨fun hbad => ?_, fun hgood => ?_⟩⟩⟩⟩
   ·have hb : b = [48] := by simpa using h0
    subst hb
    exact RetR.scal hq rfl rfl
   ·have : b ≠ [] := by simpa using hne
    have := List.length_pos_iff.2 this
    omega
   ·have hnf : j4 true b = false := by
     by_cases hb : b = []
     ·subst hb; rfl
     ·rw [if_neg (by simpa using hb)] at hbad
      split at hbad
      ·rename_i h48
       have : b.getD 0 0 = 48 := JA (of_decide_eq_true h48)
       have hl : 1 < b.length := by simp at hbad; omega
       exact v5 this hl
      ·cases hbad
    rw [hnf] at hq
    exact RetR.scal hq rfl (by simp [resV])
   ·have hf : b.all isD = true → j4 true b = true := by
     intro hall
     have hb : b ≠ [] := by
      intro hb; subst hb; simp at hgood
     have hb2 : b ≠ [48] := by simpa using h0
     rw [if_neg (by simpa using hb)] at hgood
     have h3 : ¬ (b.getD 0 0 = 48 ∧ 1 < b.length) := by
      rintro ⟨g1, g2⟩
      rw [g1] at hgood
      rw [if_pos (by decide)] at hgood
      simp at hgood; omega
     simp only [j4, hall, hb, hb2, Bool.and_true]
     simp only [decide_false, Bool.not_false, Bool.and_false, Bool.true_and, Bool.not_eq_true', Bool.and_eq_false_iff, decide_eq_false_iff_not]
     by_cases g1 : b.getD 0 0 = 48
     ·exact .inr fun g2 => h3 ⟨g1, g2⟩
     ·exact .inl g1
    exact Zg b (by simp at hs; omega) hf hq
  ·have hc : c ≠ 45 := by
    rintro rfl
    simp at h
   have hp : parse (c :: b) = (false, c :: b) := by simp [parse, hc]
   simp only [errI, hp] at hq
   obtain ⟨s, hs'⟩ : ∃ s, c :: b = s := ⟨_, rfl⟩
   have hne : s ≠ [] := by rw [← hs']; simp
   rw [hs'] at hq hs ⊢
   refine ⟨fun _ => ⟨by omega, by have := List.length_pos_iff.2 hne; omega⟩, fun _ => ⟨fun hbad => ?_, fun hgood => ?_⟩⟩
   ·have hnf : j4 false s = false := by
     rw [if_neg (by simpa using hne)] at hbad
     split at hbad
     ·rename_i h48
      have : s.getD 0 0 = 48 := JA (of_decide_eq_true h48)
      have hl : 1 < s.length := by simp at hbad; omega
      exact v5 this hl
     ·cases hbad
    rw [hnf] at hq
    exact RetR.scal hq rfl (by simp [resV])
   ·have hf : s.all isD = true → j4 false s = true := by
     intro hall
     rw [if_neg (by simpa using hne)] at hgood
     have h3 : ¬ (s.getD 0 0 = 48 ∧ 1 < s.length) := by
      rintro ⟨g1, g2⟩
      rw [g1] at hgood
      rw [if_pos (by decide)] at hgood
      simp at hgood; omega
     simp only [j4, hall, hne, Bool.and_true]
     simp only [decide_false, Bool.not_false, Bool.false_and, Bool.true_and, Bool.not_eq_true', Bool.and_eq_false_iff, decide_eq_false_iff_not]
     by_cases g1 : s.getD 0 0 = 48
     ·exact .inr fun g2 => h3 ⟨g1, g2⟩
     ·exact .inl g1
    exact Zg s hs hf hq
def numV (neg : Bool) (x : Nat) : AV := .agg [.bool neg, magS x]
def yz : Ctr := ctrP false (fun p : List UInt8 × List UInt8 => [.str p.1, .str p.2]) (fun p => p.1.length < 2 ^ 62 ∧ p.2.length < 2 ^ 62) (fun p (r : Int × (Bool × Nat) × (Bool × Nat)) => r = if zp p.1 p.2 = 0 then (0, (negI p.1, numI p.1), (negI p.2, numI p.2)) else (zp p.1 p.2, (false, 0), (false, 0)))
 (fun _ r => (.tup [numV r.2.1.1 r.2.1.2, numV r.2.2.1 r.2.2.2, .int .i64 r.1], []))
noncomputable def G5 : Nat → Option Ctr := fun f => if f = 59 then some (uY) else if f = 84 then some (Yv) else none
theorem zf6 : ∀ g c, G5 g = some c → zb Tryd.prog g c := okIf uB (okIf zbn (zn))
theorem zd9 : canon 0 = [] := by simp [canon]
theorem QP : zb Tryd.prog 72 yz := by
 refine ze (fn := Tryd.f72) (c := Tryd.f72.body.getD .skip) rfl rfl rfl fun p hp O w0 Q hq => ?_
 obtain ⟨s, t⟩ := p
 obtain ⟨hs, ht⟩ := hp
 replace hq := hq _ rfl
 simp only at hs ht hq
 refine zc.run hmix zf6 [] 400 (T := .ex (fun (x : List UInt8) => eqL [AV.str s] [AV.str x] ∧ x.length < 4611686018427387904) fun n => .all (fun (r : Int) => r = errI n) fun n => .ite (decide (n = 0)) (.ex (fun (x : List UInt8) => eqL [AV.str t] [AV.str x] ∧ x.length < 4611686018427387904) fun n => .all (fun (r : Int) => r = errI n) fun n => .ite (!decide (n = 0)) (.leaf (.ret [.agg [.bool false, .nils], .agg [.bool false, .nils], .int .i64 n] [.box [.bool false, .nils], .box [.bool false, .nils]])) (.ex (fun (x : Bool × List UInt8) => eqL [AV.str s] [AV.str (sgn x.1 x.2)] ∧ allD x.2 ∧ x.2 ≠ [] ∧ x.2.length ≤ 1000000) fun n => .all (fun (r : Nat) => r = numD n.2) fun n_1 => .ex (fun (x : Bool × List UInt8) => eqL [AV.str t] [AV.str (sgn x.1 x.2)] ∧ allD x.2 ∧ x.2 ≠ [] ∧ x.2.length ≤ 1000000) fun n_2 => .all (fun (r : Nat) => r = numD n_2.2) fun n_3 => .leaf (.ret [.agg [.bool n.1, .sl (canon n_1).length 1 (natG .u32 (canon n_1))], .agg [.bool n_2.1, .sl (canon n_3).length 1 (natG .u32 (canon n_3))], .int .i64 0] [.box [.bool n.1, .sl (canon n_1).length 1 (natG .u32 (canon n_1))], .box [.bool n_2.1, .sl (canon n_3).length 1 (natG .u32 (canon n_3))]]))) (.ite (!decide (n = 0)) (.leaf (.ret [.agg [.bool false, .nils], .agg [.bool false, .nils], .int .i64 n] [.box [.bool false, .nils], .box [.bool false, .nils]])) (.ex (fun (x : Bool × List UInt8) => eqL [AV.str s] [AV.str (sgn x.1 x.2)] ∧ allD x.2 ∧ x.2 ≠ [] ∧ x.2.length ≤ 1000000) fun n => .all (fun (r : Nat) => r = numD n.2) fun n_1 => .ex (fun (x : Bool × List UInt8) => eqL [AV.str t] [AV.str (sgn x.1 x.2)] ∧ allD x.2 ∧ x.2 ≠ [] ∧ x.2.length ≤ 1000000) fun n_2 => .all (fun (r : Nat) => r = numD n_2.2) fun n_3 => .leaf (.ret [.agg [.bool n.1, .sl (canon n_1).length 1 (natG .u32 (canon n_1))], .agg [.bool n_2.1, .sl (canon n_3).length 1 (natG .u32 (canon n_3))], .int .i64 0] [.box [.bool n.1, .sl (canon n_1).length 1 (natG .u32 (canon n_1))], .box [.bool n_2.1, .sl (canon n_3).length 1 (natG .u32 (canon n_3))]])))) (by kernel_rfl) ?_
 have bad : ∀ h, zp s t ≠ 0 → RetR yz 0 Q [.agg [.bool false, .nils], .agg [.bool false, .nils], .int .i64 (zp s t)] h := by
  intro h he
  rw [if_neg he] at hq
  refine RetR.out0 hq (fun h => by simp [yz, ctrP] at h) ?_
  simp [resV, exp2, exp1, exp0, ren0, eqA2, eqL1, eqA, eqL0, eqA0, numV, magS, natS, zd9]
 have good : ∀ h, zp s t = 0 → RetR yz 0 Q [.agg [.bool (negI s), magS (numI s)], .agg [.bool (negI t), magS (numI t)], .int .i64 0] h := by
  intro h he
  rw [if_pos he] at hq
  refine RetR.out0 hq (fun h => by simp [yz, ctrP] at h) ?_
  simp [resV, exp2, exp1, exp0, ren0, eqA2, eqL1, eqA, eqL0, eqA0, numV, magS, natS, za]
 have rd : ∀ u, errI u = 0 → eqL [AV.str u] [AV.str (sgn (negI u) (parse u).2)] ∧ allD (parse u).2 ∧ (parse u).2 ≠ [] ∧ (parse u).2.length ≤ 1000000 := by
  intro u hu
  obtain ⟨h1, h2, h3, h4⟩ := u7 hu
  exact ⟨by simpa using h1, h2, h3, by omega⟩
 simp only [Tree.holds, zd]
 refine ⟨s, ⟨by simp, by omega⟩, ?_⟩
 refine ⟨⟨_, rfl⟩, ?_⟩
 rintro _ rfl
 refine ⟨fun h1 => ?_, fun h1 => ?_⟩
 ·have h1 : errI s = 0 := by simpa using h1
  refine ⟨t, ⟨by simp, by omega⟩, ?_⟩
  refine ⟨⟨_, rfl⟩, ?_⟩
  rintro _ rfl
  refine ⟨fun h2 => ?_, fun h2 => ?_⟩
  ·have h2 : errI t ≠ 0 := by simpa using h2
   have e : zp s t = errI t := by simp [zp, h1]
   rw [← e]
   exact bad _ (by rw [e]; exact h2)
  ·have h2 : errI t = 0 := by simpa using h2
   refine ⟨(negI s, (parse s).2), rd s h1, ?_⟩
   refine ⟨⟨_, rfl⟩, ?_⟩
   rintro _ rfl
   refine ⟨(negI t, (parse t).2), rd t h2, ?_⟩
   refine ⟨⟨_, rfl⟩, ?_⟩
   rintro _ rfl
   exact good _ (zk.2 ⟨h1, h2⟩)
 ·have h1 : errI s ≠ 0 := by simpa using h1
  have e : zp s t = errI s := by simp [zp, h1]
  refine ⟨fun h2 => ?_, fun h2 => absurd (by simpa using h2) h1⟩
  rw [← e]
  exact bad _ (by rw [e]; exact h1)
noncomputable def G6 : Nat → Option Ctr := fun f => if f = 72 then some (yz) else if f = 73 then some (xd) else if f = 74 then some (yL) else none
theorem zd0 : ∀ g c, G6 g = some c → zb Tryd.prog g c := okIf QP (okIf Ql (okIf u9 (zn)))
def gcdC : Ctr := ctrP true (fun p : List UInt8 × List UInt8 => [.str p.1, .str p.2]) (fun p => p.1.length < 2 ^ 62 ∧ p.2.length < 2 ^ 62) (fun p r => r = gcdR p.1 p.2) (fun _ r => (.tup [.str r.1, .int .i64 r.2], []))
def SGc : KV := [(6, .ptr 0 0), (7, .ptr 1 0)]
def HGc (m n : Bool) (x y : Nat) : Heap := [.box [.bool m, magS x], .box [.bool n, magS y]]
theorem jo {x : Nat} : x < B ^ 112 ↔ (canon x).length ≤ 112 := by
 refine ⟨fun h => zr h, fun h => ?_⟩
 have h1 := zW (zf x)
 rw [zh] at h1
 exact Nat.lt_of_lt_of_le h1 (Nat.pow_le_pow_right (by decide) h)
theorem kB {x : Nat} : (canon x).length = 0 ↔ x = 0 := by
 constructor
 ·intro h
  have := zh x
  rw [List.length_eq_zero_iff.1 h] at this
  exact this.symm
 ·rintro rfl; simp [canon]
theorem XH : zb Tryd.prog 60 gcdC := by
 refine ze (fn := Tryd.f60) (c := Tryd.f60.body.getD .skip) rfl rfl rfl fun p hp O w0 Q hq => ?_
 obtain ⟨s, t⟩ := p
 obtain ⟨hs, ht⟩ := hp
 replace hq := hq _ rfl
 simp only at hs ht hq
 refine zc.run hmix zd0 [6, 7] 400 (T := .ex (fun (x : List UInt8 × List UInt8) => eqL [AV.str s, AV.str t] [AV.str x.1, AV.str x.2] ∧ x.1.length < 4611686018427387904 ∧ x.2.length < 4611686018427387904) fun n => .all (fun (r : Int × (Bool × Nat) × Bool × Nat) => r = if zp n.1 n.2 = 0 then ((0 : Int), (negI n.1, numI n.1), negI n.2, numI n.2) else (zp n.1 n.2, (false, 0), false, 0)) fun n => .ite (!decide (n.1 = 0)) (.leaf (.ret [.str (Array.toList #[]), .int .i64 n.1] [.box [.bool (Prod.fst (n.2.1)), .sl (List.length (canon (Prod.snd (n.2.1)))) 1 (natG .u32 (canon (Prod.snd (n.2.1))))], .box [.bool (Prod.fst (n.2.2)), .sl (List.length (canon (Prod.snd (n.2.2)))) 1 (natG .u32 (canon (Prod.snd (n.2.2))))]])) (.leaf (.loop (Prod.fst (lps K60 0)) (Prod.snd (lps K60 0)) [(6, .ptr 0 0), (7, .ptr 1 0)] [.box [.bool (Prod.fst (n.2.1)), .sl (List.length (canon (Prod.snd (n.2.1)))) 1 (natG .u32 (canon (Prod.snd (n.2.1))))], .box [.bool (Prod.fst (n.2.2)), .sl (List.length (canon (Prod.snd (n.2.2)))) 1 (natG .u32 (canon (Prod.snd (n.2.2))))]]))) (by kernel_rfl) ?_
 simp only [Tree.holds, zd]
 refine ⟨(s, t), ⟨by simp, hs, ht⟩, ⟨_, rfl⟩, ?_⟩
 rintro _ rfl
 refine ⟨fun he => ?_, fun he => ?_⟩
 ·have he : zp s t ≠ 0 := by
   intro h; simp [h] at he
  have e : gcdR s t = ([], zp s t) := by simp [gcdR, he]
  simp only [if_neg he]
  rw [e] at hq
  exact RetR.scal hq rfl (by simp [resV])
 ·have he : zp s t = 0 := by
   refine Decidable.byContradiction fun h => ?_
   simp [h] at he
  simp only [if_pos he]
  have e : gcdR s t = wr false (Nat.gcd (numI s) (numI t)) := by simp [gcdR, he]
  rw [e] at hq
  obtain ⟨h1, h2⟩ := zk.1 he
  have b1 := jo.2 (kT h1)
  have b2 := jo.2 (kT h2)
  clear e he h1 h2 hs ht
  generalize numI s = x0 at *
  generalize numI t = y0 at *
  refine zc.loop (ι := {z : Bool × Bool × Nat × Nat // Nat.gcd z.2.2.1 z.2.2.2 = Nat.gcd x0 y0 ∧ z.2.2.1 < B ^ 112 ∧ z.2.2.2 < B ^ 112}) (fun _ => SGc) (fun z => HGc z.1.1 z.1.2.1 z.1.2.2.1 z.1.2.2.2) (fun z => z.1.2.2.2) ⟨(negI s, negI t, x0, y0), rfl, b1, b2⟩ 0 ?_ ?_ (by kernel_rfl)
  ·exact ⟨by simp [SGc], by simp [HGc, magS, natS, za], by kernel_rfl, Nat.zero_le _⟩
  ·rintro ⟨⟨m, n, x, y⟩, hg, hx, hy⟩
   simp only at hg hx hy
   refine zc.run hmix zd0 [6, 7] 400 (T := .ite (decide ((0 : Int) < (↑(canon y).length : Int))) (.ex (fun (x_1 : Nat × Nat) => eqL [AV.sl (canon x).length 1 (natG .u32 (canon x)), AV.sl (canon y).length 1 (natG .u32 (canon y))] [AV.sl (canon x_1.1).length 1 (natG .u32 (canon x_1.1)), AV.sl (canon x_1.2).length 1 (natG .u32 (canon x_1.2))] ∧ List.length (canon x_1.1) < 100000 ∧ List.length (canon x_1.2) < 100000 ∧ 0 < x_1.2) fun n_1 => .all (fun (r : Nat × Nat) => r = (n_1.1 / n_1.2, n_1.1 % n_1.2)) fun n_2 => .leaf (.back 0 [(6, .ptr 0 0), (7, .ptr 1 0)] [.box [.bool m, .sl (canon y).length 1 (natG .u32 (canon y))], .box [.bool n, .sl (canon n_2.2).length 1 (natG .u32 (canon n_2.2))]])) (.ex (fun (x_1 : Bool × Nat) => eqL [AV.agg [AV.bool false, AV.sl (canon x).length 1 (natG .u32 (canon x))]] [AV.agg [AV.bool x_1.1, AV.sl (canon x_1.2).length 1 (natG .u32 (canon x_1.2))]] ∧ List.length (canon x_1.2) < 1000000) fun n_1 => .all (fun (r : List UInt8 × Int) => r = wr n_1.1 n_1.2) fun n_2 => .leaf (.ret [.str n_2.1, .int .i64 n_2.2] [.box [.bool m, .sl (canon x).length 1 (natG .u32 (canon x))], .box [.bool n, .sl (canon y).length 1 (natG .u32 (canon y))]]))) (by kernel_rfl) ?_
   simp only [Tree.holds, zd, inR, lo, hi]
   refine ⟨fun h0 => ?_, fun h0 => ?_⟩
   ·have hy0 : 0 < y := by
     rcases Nat.eq_zero_or_pos y with h | h
     ·rw [h] at h0; simp [canon] at h0
     ·exact h
    refine ⟨(x, y), ⟨by simp [za], ?_, ?_, hy0⟩, ⟨_, rfl⟩, ?_⟩
    ·have := jo.1 hx; show (canon x).length < 100000; omega
    ·have := jo.1 hy; show (canon y).length < 100000; omega
    rintro _ rfl
    simp only
    rw [if_pos trivial]
    refine ⟨⟨(m, n, y, x % y), ?_, hy, Nat.lt_trans (Nat.mod_lt x hy0) hy⟩, Nat.mod_lt x hy0, by simp [SGc], by simp [HGc, magS, natS, za], by kernel_rfl, Nat.zero_le _⟩
    show Nat.gcd y (x % y) = Nat.gcd x0 y0
    rw [← hg, Nat.gcd_comm x y, Nat.gcd_rec y x, Nat.gcd_comm]
   ·have hy0 : y = 0 := kB.1 (by have h0 := of_decide_eq_false h0; omega)
    subst hy0
    refine ⟨(false, x), ⟨by simp [za], ?_⟩, ⟨_, rfl⟩, ?_⟩
    ·have := jo.1 hx; show (canon x).length < 1000000; omega
    rintro _ rfl
    rw [Nat.gcd_zero_right] at hg
    rw [← hg] at hq
    exact RetR.scal hq rfl (by simp [resV])
end Go.Proofs.Tryd
end

/- The reference's integers: digits and comparing. -/
section
set_option maxRecDepth 100000
open Go Go.Sx Go.Proofs Go.Nov
namespace Go.Proofs.Tryd
attribute [local simp] eqKV eqA eqA0 eqH eqB eqL eqL0
theorem J9 {h : Heap} {i sz off n n' : Nat} {g : Nat → Nat → AV} (hb : h[i]? = some (.arr n' sz g)) (hn : off + n ≤ n') : exp0 h [] (.osl i sz off n) = .sl n sz (zg g off) := by
 simp [exp0, z5, frz1, jQ, hb, hn]
theorem UR {h : Heap} {i sz off n n' : Nat} {g : Nat → Nat → AV} (hb : h[i]? = some (.arr n' sz g)) (hn : off + n ≤ n') (hs : ∀ j o, j < n → o < sz → zK (zg g off j o) = true) : new0 h [] (.osl i sz off n) := by
 simp only [new0]
 intro _
 rw [J9 hb hn]
 exact hs
theorem zeo (g : Nat → Nat → AV) : zg g 0 = g := by
 funext j o; simp [zg]
end Go.Proofs.Tryd
end

/- The reference's integers: texts. -/
section
set_option maxRecDepth 100000
open Go Go.Sx Go.Proofs Go.Nov
namespace Go.Proofs.Tryd
attribute [local simp] eqKV eqA eqA0 eqH eqB eqL eqL0
end Go.Proofs.Tryd
end

/- The reference's integers: dividing. -/
section
set_option maxRecDepth 100000
open Go Go.Sx Go.Proofs Go.Nov
namespace Go.Proofs.Tryd
attribute [local simp] eqKV eqA eqA0 eqH eqB eqL eqL0
structure IRo (l m : List Nat) where
 qs : List Nat
 r : List Nat
 i : Nat
 hi : i ≤ l.length
 hql : qs.length + i = l.length
 hqd : Ten.dig qs
 hrd : Ten.dig r
 hrl : r.length ≤ m.length + 1
 hrl2 : r.length + i ≤ l.length
 hlt : Ten.val r < Ten.val m
 hv : Ten.val (l.drop i) = Ten.val qs * Ten.val m + Ten.val r
end Go.Proofs.Tryd
end

/- The reference's integers: the greatest common divisor. -/
section
set_option maxRecDepth 100000
open Go Go.Sx Go.Proofs Go.Nov
namespace Go.Proofs.Tryd
attribute [local simp] eqKV eqA eqA0 eqH eqB eqL eqL0
def big : Nat := 1000
end Go.Proofs.Tryd
end

/- The library's search for a byte, and what it means for the contracts. -/
section
namespace Go.Proofs
set_option maxHeartbeats 1000000 in
set_option maxRecDepth 100000 in
theorem Tryd.Wf (s : ByteArray) (c : Int) (w : World) :
  Calls Tryd.prog 104 #[.string s, .int .u8 c] w fun e w' => e = .returned (.int .i64 (Lib.indexByte s.data.toList c.toNat.toUInt8)) ∧ w' = w := by
 go_enter Tryd.func104, Tryd.ntmps104
 go_wp2
 rw [run_callFunc_extern Tryd.func109 (by kernel_rfl) (by kernel_rfl) (by kernel_rfl) (e := Extern.BytealgIndexByte.indexByte) (by kernel_rfl), Lib.run_indexByteString]
 simp only [Result.andThen]
 rw [Oper.upon_value]
 go_wp2
 go_ret
 exact ⟨rfl, rfl⟩
set_option maxHeartbeats 2000000 in
set_option maxRecDepth 100000 in
theorem Tryd.Vr (s : ByteArray) (c : UInt8) (w : World) :
  Calls Tryd.prog 98 #[.string s, .string ⟨#[c]⟩] w fun e w' => e = .returned (.int .i64 (Lib.indexByte s.data.toList c)) ∧ w' = w := by
 go_enter Tryd.func98, Tryd.ntmps98
 go_wp2_with (go_at_call 104; refine (Tryd.Wf _ _ _).mono ?_; rintro e w' ⟨rfl, rfl⟩)
 ·have h : ([c] == s.toList) = true := by assumption
  go_ret
  refine ⟨?_, rfl⟩
  have e : s.data.toList = [c] := by rw [← Lib.toList_data]; exact (beq_iff_eq.1 h).symm
  rw [e]
  simp [Lib.indexByte]
 ·go_ret
  exact ⟨rfl, rfl⟩
end Go.Proofs
end

/- Rationals: splitting and checking. -/
section
set_option maxRecDepth 100000
open Go Go.Sx Go.Proofs Go.Nov
namespace Go.Proofs.Tryd
attribute [local simp] eqKV eqA eqA0 eqH eqB eqL eqL0
theorem y8 (s : List UInt8) : Lib.indexByte s 47 = if z7 s < s.length then (z7 s : Int) else -1 := by
 induction s with
 | nil => rfl
 | cons c s ih =>
  simp only [Lib.indexByte, z7, List.findIdx_cons]
  cases h : (c == 47) with
  | true => simp
  | false =>
   simp only [Bool.false_eq_true, if_false, ih, cond_false, List.length_cons]
   show _ = if z7 s + 1 < s.length + 1 then ((z7 s + 1 : Nat) : Int) else -1
   by_cases h2 : z7 s < s.length
   ·rw [if_pos h2, if_neg (by simp), if_pos (by omega)]; omega
   ·rw [if_neg h2, if_pos (by rfl), if_neg (by omega)]
def Vt : Ctr := ctrP true (fun s : List UInt8 => [.str s, .str [47]]) (fun s => True) (fun s r => r = if z7 s < s.length then (z7 s : Int) else -1) (fun _ (r : Int) => (.int .i64 r, []))
theorem Uh : zb Tryd.prog 98 Vt := by
 intro args hc Q hq _
 simp only [Vt, ctrP] at hq
 split at hq
 ·obtain ⟨s, ⟨h1, _⟩, _, h3⟩ := hq
  have hq := h3 _ rfl
  simp only [Tree.holds] at hq
  refine qx.le h1 ?_
  intro O w σ vals hg hh hr
  simp only [RepL, Rep] at hr
  obtain ⟨v1, r1, rfl, rfl, v2, r2, rfl, rfl, rfl⟩ := hr
  refine .inl ⟨enters_of Tryd.func98 (by kernel_rfl) rfl .., ?_⟩
  refine (Tryd.Vr ⟨s.toArray⟩ 47 w).mono ?_
  rintro e w' ⟨rfl, rfl⟩
  have hx := y8 s
  have h0 : σ = [] := List.length_eq_zero_iff.1 hh.len
  subst h0
  refine ⟨_, rfl, _, [], [], hq, ?_, ⟨rfl, fun i j e f a b h => by simp at h, fun i e a h => by simp at h, fun i e b h => by simp at h⟩, hg, Nat.le_refl _, Hold.refl _ _ _, Ext.refl _ _⟩
  simp only [Rep]
  rw [← hx]
 ·exact hq.elim
def cutC : Ctr := ctrP true (fun s : List UInt8 => [.str s, .str [47]]) (fun s => s.length < 2 ^ 62) (fun s r => r = cutR s) (fun _ r => (.tup [.str r.1, .str r.2.1, .bool r.2.2], []))
noncomputable def GC1 : Nat → Option Ctr := fun f => if f = 98 then some (Vt) else none
theorem zdc : ∀ g c, GC1 g = some c → zb Tryd.prog g c := okIf Uh (zn)
theorem zb3 : zb Tryd.prog 83 cutC := by
 refine ze (fn := Tryd.f83) (c := Tryd.f83.body.getD .skip) rfl rfl rfl fun s hs O w0 Q hq => ?_
 replace hq := hq _ rfl
 refine zc.run hmix zdc [] 400 (T := .ex (fun (x : List UInt8) => eqL [AV.str s, AV.str [(47 : UInt8)]] [AV.str x, AV.str [(47 : UInt8)]] ∧ True) fun n => .all (fun (r : Int) => r = if z7 n < n.length then (↑(z7 n) : Int) else (-1 : Int)) fun n => .ite (decide ((0 : Int) ≤ n)) (.side ((0 : Int) ≤ n ∧ n ≤ (↑s.length : Int)) (.side (inR .i64 (n + (1 : Int))) (.side ((0 : Int) ≤ n + (1 : Int) ∧ n + (1 : Int) ≤ s.length) (.leaf (.ret [.str (List.drop 0 (List.take (Int.toNat n) s)), .str (List.drop (Int.toNat (n + (1 : Int))) (List.take s.length s)), .bool true] []))))) (.leaf (.ret [.str s, .str (Array.toList #[]), .bool false] []))) (by kernel_rfl) ?_
 simp only [Tree.holds, zd, inR, lo, hi]
 refine ⟨s, ⟨by simp, trivial⟩, ⟨_, rfl⟩, ?_⟩
 rintro _ rfl
 by_cases h : z7 s < s.length
 ·simp only [if_pos h]
  rw [VK h] at hq
  refine ⟨fun _ => ⟨by omega, fun _ => ⟨by omega, fun _ => ⟨by omega, fun _ => ?_⟩⟩⟩, fun hn => ?_⟩
  ·refine RetR.scal hq rfl ?_
   simp [resV]
  ·have := of_decide_eq_false hn; omega
 ·simp only [if_neg h]
  rw [Yb h] at hq
  refine ⟨fun hn => ?_, fun _ => RetR.scal hq rfl (by simp [resV])⟩
  have := of_decide_eq_true hn; omega
noncomputable def GC2 : Nat → Option Ctr := fun f => if f = 83 then some (cutC) else none
theorem zel : ∀ g c, GC2 g = some c → zb Tryd.prog g c := okIf zb3 (zn)
theorem zda : zb Tryd.prog 71 cutC := by
 refine ze (fn := Tryd.f71) (c := Tryd.f71.body.getD .skip) rfl rfl rfl fun s hs O w0 Q hq => ?_
 replace hq := hq _ rfl
 refine zc.run hmix zel [] 400 (T := .ex (fun (x : List UInt8) => eqL [AV.str s, AV.str [(47 : UInt8)]] [AV.str x, AV.str [(47 : UInt8)]] ∧ x.length < 4611686018427387904) fun n => .all (fun (r : List UInt8 × List UInt8 × Bool) => r = cutR n) fun n => .leaf (.ret [.str n.1, .str (n.2.1), .bool (n.2.2)] [])) (by kernel_rfl) ?_
 simp only [Tree.holds, zd, inR, lo, hi]
 refine ⟨s, ⟨by simp, hs⟩, ⟨_, rfl⟩, ?_⟩
 rintro _ rfl
 exact RetR.scal hq rfl (by simp [resV])
def Vy : Ctr := ctrP true (fun s : List UInt8 => [.str s]) (fun s => s.length < 2 ^ 62) (fun s r => r = cutR s) (fun _ r => (.tup [.str r.1, .str r.2.1, .bool r.2.2], []))
noncomputable def GC3 : Nat → Option Ctr := fun f => if f = 71 then some (cutC) else if f = 59 then some (uY) else none
theorem XR : ∀ g c, GC3 g = some c → zb Tryd.prog g c := okIf zda (okIf uB (zn))
theorem JN : zb Tryd.prog 57 Vy := by
 refine ze (fn := Tryd.f57) (c := Tryd.f57.body.getD .skip) rfl rfl rfl fun s hs O w0 Q hq => ?_
 replace hq := hq _ rfl
 refine zc.run hmix XR [] 400 (T := .ex (fun (x : List UInt8) => eqL [AV.str s, AV.str (Array.toList #[(47 : UInt8)])] [AV.str x, AV.str [(47 : UInt8)]] ∧ x.length < 4611686018427387904) fun n => .all (fun (r : List UInt8 × List UInt8 × Bool) => r = cutR n) fun n => .leaf (.ret [.str n.1, .str (n.2.1), .bool (n.2.2)] [])) (by kernel_rfl) ?_
 simp only [Tree.holds, zd, inR, lo, hi]
 refine ⟨s, ⟨by simp, hs⟩, ⟨_, rfl⟩, ?_⟩
 rintro _ rfl
 exact RetR.scal hq rfl (by simp [resV])
def zcz : Ctr := ctrP true (fun s : List UInt8 => [.str s]) (fun s => s.length < 2 ^ 62) (fun s r => r = if errI s = 12 then 12 else 0) (fun _ (r : Int) => (.int .i64 r, []))
theorem zal : zb Tryd.prog 58 zcz := by
 refine ze (fn := Tryd.f58) (c := Tryd.f58.body.getD .skip) rfl rfl rfl fun s hs O w0 Q hq => ?_
 replace hq := hq _ rfl
 refine zc.run hmix XR [] 400 (T := .ex (fun (x : List UInt8) => eqL [AV.str s] [AV.str x] ∧ x.length < 4611686018427387904) fun n => .all (fun (r : Int) => r = errI n) fun n => .ite (!decide (n = 14)) (.leaf (.ret [.int .i64 n] [])) (.leaf (.ret [.int .i64 0] []))) (by kernel_rfl) ?_
 simp only [Tree.holds, zd, inR, lo, hi]
 refine ⟨s, ⟨by simp, hs⟩, ⟨_, rfl⟩, ?_⟩
 rintro _ rfl
 rcases vA s with h | h | h <;> simp only [h] at hq ⊢
 all_goals
  refine ⟨fun h => ?_, fun h => ?_⟩
  all_goals first
   | (exfalso; revert h; decide)
   | exact RetR.scal hq rfl (by simp [resV])
def x2 : Ctr := ctrP true (fun s : List UInt8 => [.str s]) (fun s => s.length < 2 ^ 62) (fun s r => r = errR s) (fun _ (r : Int) => (.int .i64 r, []))
noncomputable def GC4 : Nat → Option Ctr := fun f => if f = 57 then some (Vy) else if f = 58 then some (zcz) else if f = 59 then some (uY) else if f = 60 then some (gcdC) else none
theorem zd8 : ∀ g c, GC4 g = some c → zb Tryd.prog g c := okIf JN (okIf zal (okIf uB (okIf XH (zn))))
theorem kz : zb Tryd.prog 36 x2 := by
 refine ze (fn := Tryd.f36) (c := Tryd.f36.body.getD .skip) rfl rfl rfl fun s hs O w0 Q hq => ?_
 replace hq := hq _ rfl
 refine zc.run hmix zd8 [] 400 (T := .ex (fun (x : List UInt8) => eqL [AV.str s] [AV.str x] ∧ x.length < 4611686018427387904) fun n => .all (fun (r : List UInt8 × List UInt8 × Bool) => r = cutR n) fun n => .ex (fun (x : List UInt8) => eqL [AV.str n.1] [AV.str x] ∧ x.length < 4611686018427387904) fun n_1 => .all (fun (r : Int) => r = if errI n_1 = 12 then (12 : Int) else (0 : Int)) fun n_2 => .ex (fun (x : List UInt8) => (!decide (n_2 = 0)) = false ∧ n.2.2 = true → eqL [AV.str (n.2.1)] [AV.str x] ∧ x.length < 4611686018427387904) fun n_3 => .all (fun (x : Int) => (!decide (n_2 = 0)) = false ∧ n.2.2 = true → x = if errI n_3 = 12 then (12 : Int) else (0 : Int)) fun n_4 => .side (((!decide (n_2 = 0)) = false ∧ n.2.2 = true) ∧ (!decide (n_4 = 0)) = false → (0 : Int) ≤ 0 ∧ (0 : Int) < (↑(List.length (n.2.1)) : Int)) (.ite (bif !decide (n_2 = 0) then true else bif n.2.2 then bif bif bif !decide (n_4 = 0) then true else decide ((↑(UInt8.toNat (List.getD (n.2.1) 0 (0 : UInt8))) : Int) = 45) then true else decide (n.2.1 = Array.toList #[(48 : UInt8)]) then true else decide (n.2.1 = Array.toList #[(49 : UInt8)]) else false) (.leaf (.ret [.int .i64 12] [])) (.ex (fun (x : List UInt8) => eqL [AV.str n.1] [AV.str x] ∧ x.length < 4611686018427387904) fun n_5 => .all (fun (r : Int) => r = errI n_5) fun n_6 => .ex (fun (x : List UInt8) => (!decide (n_6 = 0)) = false ∧ n.2.2 = true → eqL [AV.str (n.2.1)] [AV.str x] ∧ x.length < 4611686018427387904) fun n_7 => .all (fun (x : Int) => (!decide (n_6 = 0)) = false ∧ n.2.2 = true → x = errI n_7) fun n_8 => .ite (bif !decide (n_6 = 0) then true else bif n.2.2 then !decide (n_8 = 0) else false) (.leaf (.ret [.int .i64 14] [])) (.ite (n.2.2) (.ex (fun (x : List UInt8 × List UInt8) => eqL [AV.str n.1, AV.str (n.2.1)] [AV.str x.1, AV.str x.2] ∧ x.1.length < 4611686018427387904 ∧ x.2.length < 4611686018427387904) fun n => .all (fun (r : List UInt8 × Int) => r = gcdR n.1 n.2) fun n => .ite (!decide (n.1 = Array.toList #[(49 : UInt8)])) (.leaf (.ret [.int .i64 12] [])) (.leaf (.ret [.int .i64 0] []))) (.leaf (.ret [.int .i64 0] [])))))) (by kernel_rfl) ?_
 simp only [Tree.holds, zd, inR, lo, hi]
 refine ⟨s, ⟨by simp, hs⟩, ⟨_, rfl⟩, ?_⟩
 rintro _ rfl
 have hlen := Q6 s
 have hno : (cutR s).2.2 = false → (cutR s).1 = s := by
  intro h
  unfold cutR at h ⊢
  split at h
  ·cases h
  ·rename_i hn; rw [if_neg hn]
 simp only [errR] at hq
 generalize cutR s = c at hq hlen hno ⊢
 obtain ⟨n, d, f⟩ := c
 simp only at hq hlen hno ⊢
 refine ⟨n, ⟨by simp, by omega⟩, ⟨_, rfl⟩, ?_⟩
 rintro _ rfl
 refine ⟨d, fun _ => ⟨by simp, by omega⟩, ⟨_, fun _ => rfl⟩, ?_⟩
 intro fd hfd
 cases f with
 | false =>
  have hn := hno rfl
  subst hn
  rw [if_neg (by decide)] at hq
  refine ⟨fun h => by simp at h, fun _ => ⟨fun h => ?_, fun h => ?_⟩⟩
  ·rcases vA n with e | e | e <;> rw [e] at hq h
   ·simp at h
   ·exact RetR.scal hq rfl (by simp [resV])
   ·simp at h
  ·have hn12 : errI n ≠ 12 := by
    intro e; rw [e] at h; simp at h
   refine ⟨n, ⟨by simp, by omega⟩, ⟨_, rfl⟩, ?_⟩
   rintro _ rfl
   refine ⟨d, fun _ => ⟨by simp, by omega⟩, ⟨_, fun _ => rfl⟩, ?_⟩
   intro fd2 _
   refine ⟨fun h => ?_, fun h => ⟨fun h => (by cases h), fun _ => ?_⟩⟩
   ·rcases vA n with e | e | e
    ·rw [e] at h; simp at h
    ·exact absurd e hn12
    ·rw [e] at hq; exact RetR.scal hq rfl (by simp [resV])
   ·rcases vA n with e | e | e
    ·rw [e] at hq; exact RetR.scal hq rfl (by simp [resV])
    ·exact absurd e hn12
    ·rw [e] at h; simp at h
 | true =>
  rw [if_pos rfl] at hq
  by_cases hn : errI n = 12
  ·rw [if_pos (.inl hn)] at hq
   simp only [hn]
   refine ⟨fun h => by simp at h, fun _ => ⟨fun _ => RetR.scal hq rfl (by simp [resV]), fun h => by simp at h⟩⟩
  ·rw [if_neg hn] at hfd ⊢
   have hfd := hfd ⟨by simp, rfl⟩
   subst hfd
   by_cases hd : errI d = 12
   ·rw [if_pos (.inr (.inl hd))] at hq
    rw [if_pos hd]
    refine ⟨fun h => by simp at h, fun _ => ⟨fun _ => RetR.scal hq rfl (by simp [resV]), fun h => by simp at h⟩⟩
   ·rw [if_neg hd]
    have hd0 : d ≠ [] := by rintro rfl; exact hd Wk
    have hneg := ZO hd0
    have hneg2 : decide (((d.getD 0 0).toNat : Int) = 45) = negI d := by
     rw [hneg]
     by_cases h : d.getD 0 0 = 45
     ·rw [h]; rfl
     ·rw [decide_eq_false h]
      refine decide_eq_false fun h2 => h (JA ?_)
      rw [h2]; rfl
    rw [hneg2]
    refine ⟨fun _ => by have := List.length_pos_iff.2 hd0; omega, fun _ => ⟨fun h => ?_, fun h => ?_⟩⟩
    ·have : negI d = true ∨ d = [48] ∨ d = [49] := by
      revert h
      cases negI d <;> simp
     rw [if_pos (.inr (.inr this))] at hq
     exact RetR.scal hq rfl (by simp [resV])
    ·have : ¬ (errI n = 12 ∨ errI d = 12 ∨ negI d = true ∨ d = [48] ∨ d = [49]) := by
      revert h
      cases negI d <;> simp [hn, hd]
     rw [if_neg this] at hq
     refine ⟨n, ⟨by simp, by omega⟩, ⟨_, rfl⟩, ?_⟩
     rintro _ rfl
     refine ⟨d, fun _ => ⟨by simp, by omega⟩, ⟨_, fun _ => rfl⟩, ?_⟩
     intro ed hed
     by_cases hn0 : errI n = 0
     ·have hed := hed ⟨by simp [hn0], rfl⟩
      subst hed
      by_cases hd0 : errI d = 0
      ·rw [if_neg (by simp [hn0, hd0])] at hq
       refine ⟨fun h => by simp [hn0, hd0] at h, fun _ => ⟨fun _ => ?_, fun h => by cases h⟩⟩
       refine ⟨(n, d), ⟨by simp, by simp only; omega, by simp only; omega⟩, ⟨_, rfl⟩, ?_⟩
       rintro _ rfl
       refine ⟨fun h => ?_, fun h => ?_⟩
       ·rw [if_pos (by simpa using h)] at hq
        exact RetR.scal hq rfl (by simp [resV])
       ·rw [if_neg (by simpa using h)] at hq
        exact RetR.scal hq rfl (by simp [resV])
      ·rw [if_pos (.inr hd0)] at hq
       refine ⟨fun _ => RetR.scal hq rfl (by simp [resV]), fun h => by simp [hn0, hd0] at h⟩
     ·rw [if_pos (.inl hn0)] at hq
      refine ⟨fun _ => RetR.scal hq rfl (by simp [resV]), fun h => by simp [hn0] at h⟩
end Go.Proofs.Tryd
end

/- Names and days. -/
section
set_option maxRecDepth 100000
open Go Go.Sx Go.Proofs Go.Nov
namespace Go.Proofs.Tryd
attribute [local simp] eqKV eqA eqA0 eqH eqB eqL eqL0
noncomputable def K25 : List Go.Sx.Item := [.code (Tryd.f25.body.getD .skip)]
def xG : Ctr := ctrP true (fun d : Int => [.int .i64 d]) (fun _ => True) (fun d r => r = dayB d) (fun _ (r : Bool) => (.bool r, []))
theorem k9 : zb Tryd.prog 35 xG := by
 refine ze (fn := Tryd.f35) (c := Tryd.f35.body.getD .skip) rfl rfl rfl fun d hs O w0 Q hq => ?_
 replace hq := hq _ rfl
 refine zc.run hmix zD [] 400 (T := .leaf (.ret [.bool (bif decide ((0 : Int) ≤ d) then decide (d ≤ 99999) else false)] [])) (by kernel_rfl) ?_
 simp only [Tree.holds, zd]
 refine RetR.scal hq rfl ?_
 simp only [resV, dayB]
 cases decide (0 ≤ d) <;> rfl
theorem zap (c : UInt8) : (bif bif decide (97 ≤ (c.toNat : Int)) then decide ((c.toNat : Int) ≤ 122) else false then true else bif decide (65 ≤ (c.toNat : Int)) then decide ((c.toNat : Int) ≤ 90) else false) = isL c := by
 have e1 : decide (97 ≤ (c.toNat : Int)) = decide (97 ≤ c.toNat) := decide_eq_decide.2 (by omega)
 have e2 : decide ((c.toNat : Int) ≤ 122) = decide (c.toNat ≤ 122) := decide_eq_decide.2 (by omega)
 have e3 : decide (65 ≤ (c.toNat : Int)) = decide (65 ≤ c.toNat) := decide_eq_decide.2 (by omega)
 have e4 : decide ((c.toNat : Int) ≤ 90) = decide (c.toNat ≤ 90) := decide_eq_decide.2 (by omega)
 rw [e1, e2, e3, e4]
 simp only [isL]
 cases decide (97 ≤ c.toNat) <;> cases decide (c.toNat ≤ 122) <;> cases decide (65 ≤ c.toNat) <;> rfl
def Km : Ctr := ctrP true (fun c : UInt8 => [.int .u8 (c.toNat : Int)]) (fun _ => True) (fun c r => r = isL c) (fun _ (r : Bool) => (.bool r, []))
theorem KI : zb Tryd.prog 52 Km := by
 refine ze (fn := Tryd.f52) (c := Tryd.f52.body.getD .skip) rfl rfl rfl fun c hs O w0 Q hq => ?_
 replace hq := hq _ rfl
 refine zc.run hmix zD [] 400 (T := .leaf (.ret [.bool (bif bif decide ((97 : Int) ≤ (↑(UInt8.toNat c) : Int)) then decide ((↑(UInt8.toNat c) : Int) ≤ 122) else false then true else bif decide ((65 : Int) ≤ (↑(UInt8.toNat c) : Int)) then decide ((↑(UInt8.toNat c) : Int) ≤ 90) else false)] [])) (by kernel_rfl) ?_
 simp only [Tree.holds, zd]
 refine RetR.scal hq rfl ?_
 simp only [resV]
 rw [zap]
theorem ZQ (c d : UInt8) : decide ((c.toNat : Int) = (d.toNat : Int)) = (c == d) := by
 by_cases h : c = d
 ·subst h; simp
 ·rw [decide_eq_false fun h2 => h (JA h2)]
  simp [h]
theorem zaj (c : UInt8) : (bif decide ((c.toNat : Int) < 48) then true else decide (57 < (c.toNat : Int))) = !isD c := by
 rw [Bool.cond_eq_ite]; exact uy c
theorem YZ (c : UInt8) : (bif bif bif !isL c then bif decide ((c.toNat : Int) < 48) then true else decide (57 < (c.toNat : Int)) else false then !decide ((c.toNat : Int) = 95) else false then !decide ((c.toNat : Int) = 45) else false) = !isN c := by
 rw [zaj]
 have e1 : decide ((c.toNat : Int) = 95) = (c == 95) := ZQ c 95
 have e2 : decide ((c.toNat : Int) = 45) = (c == 45) := ZQ c 45
 rw [e1, e2]; simp only [isN]
 cases isL c <;> cases isD c <;> cases (c == 95) <;> cases (c == 45) <;> rfl
def Wu : Ctr := ctrP true (fun s : List UInt8 => [.str s]) (fun s => s.length < 2 ^ 62) (fun s r => r = qK s) (fun _ (r : Bool) => (.bool r, []))
noncomputable def GN1 : Nat → Option Ctr := fun f => if f = 52 then some (Km) else none
theorem Ya : ∀ g c, GN1 g = some c → zb Tryd.prog g c := okIf KI (zn)
def SNa (s : List UInt8) (i : Nat) : KV := [(0, .str s), (20, .int .i64 (s.length : Int)), (21, .int .i64 (i : Int)), (31, .undef), (32, .undef), (33, .undef), (34, .undef), (35, .undef), (36, .undef), (39, .undef), (40, .undef), (43, .undef), (44, .undef)]
theorem Xi {O : Nat → Prop} {w0 : World} {Q : AV × Heap → Prop} {Hs : Nat → KV → Heap → Prop} (s : List UInt8) (hs : s.length < 2 ^ 62) (hq : Q (.bool (s.all isN), [])) :
  zc Tryd.prog Tryd.f25 O 0 w0 [] Hs (RetR Wu 0 Q) (.code (.loop (lps K25 0).1) :: (lps K25 0).2) (mk Tryd.f25.ntmps (SNa s 0) []) := by
 refine zc.loop (ι := {i : Nat // i ≤ s.length ∧ ∀ j, j < i → isN (s.getD j 0) = true}) (fun i => SNa s i.1) (fun _ => []) (fun i => s.length - i.1) ⟨0, Nat.zero_le _, fun j hj => by omega⟩ 0 ?_ ?_ (by kernel_rfl)
 ·exact ⟨by simp [SNa], by simp, by kernel_rfl, Nat.zero_le _⟩
 ·rintro ⟨i, hil, hib⟩
  refine zc.run hmix Ya [0, 20, 21, 31, 32, 33, 34, 35, 36, 39, 40, 43, 44] 400 (T := .ite (decide ((↑i : Int) < s.length)) (.side ((0 : Int) ≤ i ∧ (↑i : Int) < s.length) (.ex (fun (x : UInt8) => eqL [AV.int .u8 (↑(UInt8.toNat (List.getD s (Int.toNat (↑i : Int)) (0 : UInt8))) : Int)] [AV.int .u8 (↑(UInt8.toNat x) : Int)] ∧ True) fun n => .all (fun (r : Bool) => r = isL n) fun n => .ite (bif bif bif !n then bif decide ((↑(UInt8.toNat (List.getD s (Int.toNat (↑i : Int)) (0 : UInt8))) : Int) < 48) then true else decide ((57 : Int) < (↑(UInt8.toNat (List.getD s (Int.toNat (↑i : Int)) (0 : UInt8))) : Int)) else false then !decide ((↑(UInt8.toNat (List.getD s (Int.toNat (↑i : Int)) (0 : UInt8))) : Int) = 95) else false then !decide ((↑(UInt8.toNat (List.getD s (Int.toNat (↑i : Int)) (0 : UInt8))) : Int) = 45) else false) (.leaf (.ret [.bool false] [])) (.side (inR .i64 ((↑i : Int) + (1 : Int))) (.leaf (.back 0 [(0, .str s), (20, .int .i64 s.length), (21, .int .i64 ((↑i : Int) + (1 : Int))), (31, .undef), (32, .undef), (33, .undef), (34, .undef), (35, .undef), (36, .undef), (39, .undef), (40, .undef), (43, .undef), (44, .undef)] []))))) (.leaf (.ret [.bool true] []))) (by kernel_rfl) ?_
  simp only [Tree.holds, zd, inR, lo, hi, Int.toNat_natCast]
  refine ⟨fun hlt => ?_, fun hge => ?_⟩
  ·have hlt : i < s.length := by have := of_decide_eq_true hlt; omega
   refine ⟨by omega, fun _ => ⟨s.getD i 0, ⟨by simp, trivial⟩, ⟨_, rfl⟩, ?_⟩⟩
   rintro _ rfl
   rw [YZ]
   refine ⟨fun h => ?_, fun h => ⟨by omega, fun _ => ?_⟩⟩
   ·rw [QY hlt (by simpa using h)] at hq
    exact RetR.scal hq rfl (by simp [resV])
   ·rw [if_pos trivial]
    refine ⟨⟨i + 1, hlt, fun j hj => ?_⟩, by show s.length - (i + 1) < s.length - i; omega, by simp [SNa], by simp, by kernel_rfl, Nat.zero_le _⟩
    rcases Nat.lt_or_ge j i with h1 | h1
    ·exact hib j h1
    ·have : j = i := by omega
     rw [this]; simpa using h
  ·have hge : i = s.length := by have := of_decide_eq_false hge; omega
   subst hge
   rw [UH hib] at hq
   exact RetR.scal hq rfl (by simp [resV])
theorem QN : zb Tryd.prog 25 Wu := by
 refine ze (fn := Tryd.f25) (c := Tryd.f25.body.getD .skip) rfl rfl rfl fun s hs O w0 Q hq => ?_
 replace hq := hq _ rfl
 refine zc.run hmix Ya [0, 20, 21, 31, 32, 33, 34, 35, 36, 39, 40, 43, 44] 400 (T := .side ((bif decide ((↑s.length : Int) < 1) then true else decide ((40 : Int) < s.length)) = false → (0 : Int) ≤ 0 ∧ (0 : Int) < s.length) (.ex (fun (x : UInt8) => (bif decide ((↑s.length : Int) < 1) then true else decide ((40 : Int) < s.length)) = false → eqL [AV.int .u8 (↑(UInt8.toNat (List.getD s 0 (0 : UInt8))) : Int)] [AV.int .u8 (↑(UInt8.toNat x) : Int)] ∧ True) fun n => .all (fun (x : Bool) => (bif decide ((↑s.length : Int) < 1) then true else decide ((40 : Int) < s.length)) = false → x = isL n) fun n => .ite (bif bif decide ((↑s.length : Int) < 1) then true else decide ((40 : Int) < s.length) then true else !n) (.leaf (.ret [.bool false] [])) (.leaf (.loop (Prod.fst (lps K25 0)) (Prod.snd (lps K25 0)) [(0, .str s), (20, .int .i64 s.length), (21, .int .i64 0), (31, .undef), (32, .undef), (33, .undef), (34, .undef), (35, .undef), (36, .undef), (39, .undef), (40, .undef), (43, .undef), (44, .undef)] [])))) (by kernel_rfl) ?_
 simp only [Tree.holds, zd, inR, lo, hi]
 have hd : decide ((s.length : Int) < 1) = !decide (0 < s.length) := by
  by_cases h : 0 < s.length
  ·rw [decide_eq_true h, decide_eq_false (by omega)]; rfl
  ·rw [decide_eq_false h, decide_eq_true (by omega)]; rfl
 have hd2 : decide (40 < (s.length : Int)) = !decide (s.length ≤ 40) := by
  by_cases h : s.length ≤ 40
  ·rw [decide_eq_true h, decide_eq_false (by omega)]; rfl
  ·rw [decide_eq_false h, decide_eq_true (by omega)]; rfl
 rw [hd, hd2]
 have hnb : qK s = (decide (0 < s.length) && decide (s.length ≤ 40) && isL (s.getD 0 0) && s.all isN) := rfl
 cases h1 : decide (0 < s.length) with
 | false =>
  rw [hnb, h1] at hq
  refine ⟨fun h => (by cases h), fun _ => ⟨0, fun h => (by cases h), ⟨false, fun h => (by cases h)⟩, ?_⟩⟩
  intro b _
  exact ⟨fun _ => RetR.scal hq rfl (by simp [resV]), fun h => (by cases h)⟩
 | true =>
  have h1' := of_decide_eq_true h1
  cases h2 : decide (s.length ≤ 40) with
  | false =>
   rw [hnb, h1, h2] at hq
   refine ⟨fun h => (by cases h), fun _ => ⟨0, fun h => (by cases h), ⟨false, fun h => (by cases h)⟩, ?_⟩⟩
   intro b _
   exact ⟨fun _ => RetR.scal hq rfl (by simp [resV]), fun h => (by cases h)⟩
  | true =>
   refine ⟨fun _ => by omega, fun _ => ⟨s.getD 0 0, fun _ => ⟨by simp, trivial⟩, ⟨_, fun _ => rfl⟩, ?_⟩⟩
   intro b hb
   have hb := hb rfl
   subst hb
   cases h3 : isL (s.getD 0 0) with
   | false =>
    rw [hnb, h1, h2, h3] at hq
    exact ⟨fun _ => RetR.scal hq rfl (by simp [resV]), fun h => (by cases h)⟩
   | true =>
    rw [hnb, h1, h2, h3] at hq
    refine ⟨fun h => (by cases h), fun _ => ?_⟩
    exact Xi s hs hq
end Go.Proofs.Tryd
end

/- Expressions: their size. -/
section
set_option maxRecDepth 100000
open Go Go.Sx Go.Proofs Go.Nov
namespace Go.Proofs.Tryd
attribute [local simp] eqKV eqA eqA0 eqH eqB eqL eqL0
noncomputable def K29 : List Go.Sx.Item := [.code (Tryd.f29.body.getD .skip)]
theorem wM {X R : Type} {P : Program} {g : Nat} {fresh : Bool} {inp : X → List AV} {pre : X → Prop} {post : X → R → Prop} {out : X → R → AV × Heap} (μ : X → Nat)
  (step : ∀ n, zb P g (ctrP fresh inp (fun x => μ x < n ∧ pre x) post out) → zb P g (ctrP fresh inp (fun x => μ x < n + 1 ∧ pre x) post out)) : zb P g (ctrP fresh inp pre post out) := by
 have all : ∀ n, zb P g (ctrP fresh inp (fun x => μ x < n ∧ pre x) post out) := by
  intro n
  induction n with
  | zero =>
   intro args hc Q hq _
   simp only [ctrP] at hq
   split at hq
   ·obtain ⟨x, ⟨_, h, _⟩, _⟩ := hq
    exact absurd h (Nat.not_lt_zero _)
   ·exact hq.elim
  | succ n ih => exact step n ih
 intro args hc Q hq hf
 match hc, hq, hf with
 | [], hq, hf =>
  obtain ⟨x, ⟨h1, h2⟩, h3⟩ := hq
  exact all (μ x + 1) args [] Q ⟨x, ⟨h1, Nat.lt_succ_self _, h2⟩, h3⟩ hf
 | _ :: _, hq, _ => exact hq.elim
def Kx (n : Nat) : Ctr := ctrP true (fun x : Ex => [x.exA]) (fun x => x.size < n ∧ x.size < 2 ^ 62) (fun x r => r = x.size) (fun _ (r : Nat) => (.int .i64 (r : Int), []))
def GSz (g n : Nat) : Nat → Option Ctr := fun f => if f = g then some (Kx n) else none
theorem UB {g n : Nat} (h : zb Tryd.prog g (Kx n)) : ∀ f c, GSz g n f = some c → zb Tryd.prog f c := by
 intro f c hf
 simp only [GSz] at hf
 split at hf
 ·rename_i hg; subst hg; cases hf; exact h
 ·cases hf
theorem xc {x : Ex} {k d : Int} {r m : List UInt8} {l : Nat} {g : Nat → Nat → AV} (hk : k = x.kind) (hr : r = x.rat) (hm : m = x.name) (hd : d = x.date) (hl : l = x.sub.length) (hg : eqG x.sub.length 5 g (Ex.exG x.sub)) : eqL [.agg [.int .u8 k, .str r, .str m, .int .i64 d, .sl l 5 g]] [x.exA] := by
 subst hk; subst hr; subst hm; subst hd; subst hl
 exact ⟨⟨⟨rfl, rfl⟩, rfl, rfl, ⟨rfl, rfl⟩, ⟨rfl, rfl, hg⟩, trivial⟩, trivial⟩
def SSz (s : List Ex) (c i : Nat) : KV := [(3, .int .i64 (c : Int)), (7, Ex.exS s), (8, .int .i64 (s.length : Int)), (9, .int .i64 (i : Int))]
theorem Xg (n : Nat) (ih : zb Tryd.prog 29 (Kx n)) : zb Tryd.prog 29 (Kx (n + 1)) := by
 refine ze (fn := Tryd.f29) (c := Tryd.f29.body.getD .skip) rfl rfl rfl fun x hx O w0 Q hq => ?_
 replace hq := hq _ rfl
 obtain ⟨hxn, hxs⟩ := hx
 rw [Ex.size_eq] at hxn hxs hq
 obtain ⟨k, r, m, d, s⟩ := x
 simp only [Ex.sub] at hxn hxs hq
 refine zc.run hmix (UB ih) [3, 7, 8, 9] 400 (T := .leaf (.loop (Prod.fst (lps K29 0)) (Prod.snd (lps K29 0)) [(3, .int .i64 1), (7, .sl s.length 5 (Ex.exG s)), (8, .int .i64 s.length), (9, .int .i64 0)] [.box [.int .u8 k, .str r, .str m, .int .i64 d, .sl s.length 5 (Ex.exG s)]])) (by kernel_rfl) ?_
 simp only [Tree.holds, zd]
 have hlen := Ex.qc s
 refine zc.loop (ι := {i : Nat // i ≤ s.length}) (fun i => SSz s (1 + Ex.zR (s.take i.1)) i.1) (fun _ => []) (fun i => s.length - i.1) ⟨0, Nat.zero_le _⟩ 0 ?_ ?_ (by kernel_rfl)
 ·exact ⟨by simp [SSz, Ex.zR, Ex.exS, za], by simp, by kernel_rfl, Nat.zero_le _⟩
 ·rintro ⟨i, hil⟩
  have hle := Ex.kF s i
  obtain ⟨c, hc⟩ : ∃ c, 1 + Ex.zR (s.take i) = c := ⟨_, rfl⟩
  simp only [hc]
  refine zc.run hmix (UB ih) [3, 7, 8, 9] 400 (T := .ite (decide ((↑i : Int) < s.length)) (.side ((0 : Int) ≤ i ∧ (↑i : Int) < s.length) (.ex (fun (x : Ex) => eqL [AV.agg [AV.int .u8 (Ex.kind (List.getD s (Int.toNat (↑i : Int)) Ex.nil)), AV.str (Ex.rat (List.getD s (Int.toNat (↑i : Int)) Ex.nil)), AV.str (Ex.name (List.getD s (Int.toNat (↑i : Int)) Ex.nil)), AV.int .i64 (Ex.date (List.getD s (Int.toNat (↑i : Int)) Ex.nil)), AV.sl (List.length (Ex.sub (List.getD s (Int.toNat (↑i : Int)) Ex.nil))) 5 (Ex.deep (List.getD s (Int.toNat (↑i : Int)) Ex.nil))]] [AV.agg [AV.int .u8 x.kind, AV.str x.rat, AV.str x.name, AV.int .i64 x.date, AV.sl x.sub.length 5 (Ex.exG x.sub)]] ∧ Ex.size x < n ∧ Ex.size x < 4611686018427387904) fun n => .all (fun (r : Nat) => r = Ex.size n) fun n => .side (inR .i64 ((↑c : Int) + n)) (.side (inR .i64 ((↑i : Int) + (1 : Int))) (.leaf (.back 0 [(3, .int .i64 ((↑c : Int) + n)), (7, .sl s.length 5 (Ex.exG s)), (8, .int .i64 s.length), (9, .int .i64 ((↑i : Int) + (1 : Int)))] [.box [.int .u8 (Ex.kind (List.getD s (Int.toNat (↑i : Int)) Ex.nil)), .str (Ex.rat (List.getD s (Int.toNat (↑i : Int)) Ex.nil)), .str (Ex.name (List.getD s (Int.toNat (↑i : Int)) Ex.nil)), .int .i64 (Ex.date (List.getD s (Int.toNat (↑i : Int)) Ex.nil)), .sl (List.length (Ex.sub (List.getD s (Int.toNat (↑i : Int)) Ex.nil))) 5 (Ex.deep (List.getD s (Int.toNat (↑i : Int)) Ex.nil))]]))))) (.leaf (.ret [.int .i64 c] []))) (by kernel_rfl) ?_
  simp only [Tree.holds, zd, inR, lo, hi, Int.toNat_natCast]
  refine ⟨fun hlt => ?_, fun hge => ?_⟩
  ·have hlt : i < s.length := by have := of_decide_eq_true hlt; omega
   have hg := Ex.zH hlt
   have ht := Ex.uk s i hlt
   have hle2 := Ex.kF s (i + 1)
   refine ⟨by omega, fun _ => ⟨s.getD i Ex.nil, ⟨xc rfl rfl rfl rfl rfl (Ex.qU _), by omega, by omega⟩, ⟨_, rfl⟩, ?_⟩⟩
   rintro _ rfl
   refine ⟨by omega, fun _ => ⟨by omega, fun _ => ?_⟩⟩
   rw [if_pos trivial]
   refine ⟨⟨i + 1, hlt⟩, by show s.length - (i + 1) < s.length - i; omega, ?_, by simp, by kernel_rfl, Nat.zero_le _⟩
   simp [SSz, Ex.exS, za, ht]; omega
  ·have hge : i = s.length := by have := of_decide_eq_false hge; omega
   subst hge
   rw [List.take_length] at hc
   rw [hc] at hq
   exact RetR.scal hq rfl (by simp [resV])
def zbx : Ctr := ctrP true (fun x : Ex => [x.exA]) (fun x => x.size < 2 ^ 62) (fun x r => r = x.size) (fun _ (r : Nat) => (.int .i64 (r : Int), []))
theorem zbi : zb Tryd.prog 29 zbx := wM Ex.size Xg
def boxE (k : Int) (r m : List UInt8) (d : Int) (s : List Ex) : Heap := [.box [.int .u8 k, .str r, .str m, .int .i64 d, Ex.exS s]]
end Go.Proofs.Tryd
end

/- Expressions: depth, strings, sorts. -/
section
namespace Go.Nov
open Go.Sx
def qQ (k : Int) (r n : List UInt8) (d : Int) (l : Nat) : Bool :=
 decide (l = 0) && (if k = 1 then decide (errR r = 0) && decide (n = []) && decide (d = 0) else if k = 2 then decide (r = []) && qK n && dayB d else if k = 3 then decide (r = []) && qK n && decide (d = 0) else false)
def wx (k : Int) (r n : List UInt8) (d : Int) (ss : List Int) : Int :=
 if qt k = true then (if r = [] ∧ n = [] ∧ d = 0 ∧ ss = qf k then qG k else 0) else if qQ k r n d ss.length = true then 1 else 0
def zcp (r m : List UInt8) (d : Int) : Bool := bif (bif decide (r = []) then decide (m = []) else false) then decide (d = 0) else false
theorem Qs {k : Int} {r m : List UInt8} {d : Int} {l ps : List Int} {w : Int} (h : xo k = some (ps, w)) : wx k r m d l = if zcp r m d = true ∧ l = ps then w else 0 := by
 have h1 : qt k = true := by simp [qt, h]
 have h2 : qf k = ps := by simp [qf, h]
 have h3 : qG k = w := by simp [qG, h]
 unfold wx
 rw [if_pos h1, h2, h3]
 simp [zcp, and_assoc]
theorem wC {k : Int} {r m : List UInt8} {d : Int} {l : List Int} (h : qt k = false) : wx k r m d l = if qQ k r m d l.length = true then 1 else 0 := by
 unfold wx
 rw [if_neg (by rw [h]; decide)]
theorem VC {k : Int} (h : ¬ (4 ≤ k ∧ k ≤ 9)) (h2 : ¬ (11 ≤ k ∧ k ≤ 15)) : qt k = false := by
 have e : ∀ c : Int, (4 ≤ c ∧ c ≤ 9) ∨ (11 ≤ c ∧ c ≤ 15) → (c == k) = false := fun c hc => by
  rw [beq_eq_false_iff_ne]; omega
 simp only [qt, xo, shpL, List.find?_cons, e 4 (by omega), e 5 (by omega), e 6 (by omega), e 7 (by omega), e 8 (by omega), e 9 (by omega), e 11 (by omega), e 12 (by omega), e 13 (by omega), e 14 (by omega), e 15 (by omega), List.find?_nil]
 rfl
namespace Ex
mutual
def depth : Ex → Nat
 | mk _ _ _ _ s => 1 + qM s
def qM : List Ex → Nat
 | [] => 0
 | x :: l => max (depth x) (qM l)
end
mutual
def zx : Ex → Nat
 | mk _ r n _ s => r.length + n.length + zN s
def zN : List Ex → Nat
 | [] => 0
 | x :: l => zx x + zN l
end
mutual
def zt : Ex → Int
 | mk k r n d s => wx k r n d (qh s)
def qh : List Ex → List Int
 | [] => []
 | x :: l => zt x :: qh l
end
mutual
def thin : Ex → Prop
 | mk _ r n _ s => r.length ≤ 2 ^ 48 ∧ n.length ≤ 2 ^ 48 ∧ u5 s
def u5 : List Ex → Prop
 | [] => True
 | x :: l => thin x ∧ u5 l
end
theorem uI (x : Ex) : x.depth = 1 + qM x.sub := by cases x; rw [depth]; rfl
theorem Zv (x : Ex) : x.zx = x.rat.length + x.name.length + zN x.sub := by cases x; rw [zx]; rfl
theorem yY (x : Ex) : x.zt = wx x.kind x.rat x.name x.date (qh x.sub) := by cases x; rw [zt]; rfl
theorem Jq (s : List Ex) (i : Nat) (h : i < s.length) : qM (s.take (i + 1)) = max (qM (s.take i)) (s.getD i nil).depth := by
 induction s generalizing i with
 | nil => simp at h
 | cons x s ih =>
  cases i with
  | zero => simp [qM]
  | succ i =>
   simp only [List.take_succ_cons, qM, List.getD_cons_succ]
   rw [ih i (by simpa using h)]
   omega
theorem Jy (s : List Ex) (i : Nat) (h : i < s.length) : zN (s.take (i + 1)) = zN (s.take i) + (s.getD i nil).zx := by
 induction s generalizing i with
 | nil => simp at h
 | cons x s ih =>
  cases i with
  | zero => simp [zN]
  | succ i =>
   simp only [List.take_succ_cons, zN, List.getD_cons_succ]
   rw [ih i (by simpa using h)]
   omega
theorem uW {s : List Ex} {i : Nat} (h : i < s.length) : (s.getD i nil).zx ≤ zN s := by
 induction s generalizing i with
 | nil => simp at h
 | cons x s ih =>
  cases i with
  | zero => simp [zN]
  | succ i =>
   simp only [List.getD_cons_succ, zN]
   have := ih (i := i) (by simpa using h)
   omega
theorem vS (s : List Ex) (i : Nat) : zN (s.take i) ≤ zN s := by
 induction s generalizing i with
 | nil => simp [zN]
 | cons x s ih =>
  cases i with
  | zero => simp [zN]
  | succ i => simp only [List.take_succ_cons, zN]; have := ih i; omega
theorem qZ (s : List Ex) : (qh s).length = s.length := by
 induction s with
 | nil => simp [qh]
 | cons x s ih => simp [qh, ih]
theorem Z1 {s : List Ex} {i : Nat} (h : i < s.length) : (qh s).getD i 0 = (s.getD i nil).zt := by
 induction s generalizing i with
 | nil => simp at h
 | cons x s ih =>
  cases i with
  | zero => simp [qh]
  | succ i => simpa [qh] using ih (i := i) (by simpa using h)
theorem xl {s : List Ex} {ps : List Int} : qh s = ps ↔ s.length = ps.length ∧ ∀ i, i < s.length → (s.getD i nil).zt = ps.getD i 0 := by
 constructor
 ·rintro rfl
  exact ⟨(qZ s).symm, fun i hi => (Z1 hi).symm⟩
 ·rintro ⟨h1, h2⟩
  apply List.ext_getElem
  ·rw [qZ, h1]
  ·intro i g1 g2
   have g3 : i < s.length := by rwa [qZ] at g1
   have := h2 i g3
   rw [← Z1 g3] at this
   simpa [List.getD, g1, g2] using this
mutual
theorem Z6 : ∀ x : Ex, thin x → zx x ≤ size x * 2 ^ 49
 | mk k r n d s, h => by
  rw [thin] at h
  have := Qh s h.2.2
  rw [zx, size, Nat.add_mul]
  omega
theorem Qh : ∀ l : List Ex, u5 l → zN l ≤ zR l * 2 ^ 49
 | [], _ => by simp [zN]
 | x :: l, h => by
  rw [u5] at h
  have h1 := Z6 x h.1
  have h2 := Qh l h.2
  rw [zN, zR, Nat.add_mul]
  omega
end
def errX (x : Ex) : Int := if 500 < x.size ∨ 60 < x.depth then 4 else if x.zt = 0 then 8 else 0
theorem Xw (x : Ex) : 0 < x.depth := by rw [uI]; omega
theorem Zo : ∀ x : Ex, x.depth ≤ x.size := by
 intro x
 have key : ∀ (n : Nat) (x : Ex), x.size ≤ n → x.depth ≤ x.size := by
  intro n
  induction n with
  | zero => intro x h; have := size_pos x; omega
  | succ n ih =>
   intro x h
   rw [size_eq] at h ⊢
   rw [uI]
   have : ∀ l : List Ex, zR l ≤ n → qM l ≤ zR l := by
    intro l
    induction l with
    | nil => simp [qM]
    | cons y l il =>
     intro hl
     simp only [zR, qM] at hl ⊢
     have := ih y (by omega)
     have := il (by omega)
     omega
   have := this x.sub (by omega)
   omega
 exact key _ x (Nat.le_refl _)
end Ex
end Go.Nov
end

/- Expressions: the reference's bounds. -/
section
set_option maxRecDepth 100000
open Go Go.Sx Go.Proofs Go.Nov
namespace Go.Proofs.Tryd
attribute [local simp] eqKV eqA eqA0 eqH eqB eqL eqL0
noncomputable def K30 : List Go.Sx.Item := [.code (Tryd.f30.body.getD .skip)]
noncomputable def K31 : List Go.Sx.Item := [.code (Tryd.f31.body.getD .skip)]
def G1c (g : Nat) (C : Ctr) : Nat → Option Ctr := fun f => if f = g then some C else none
theorem wZ {g : Nat} {C : Ctr} (h : zb Tryd.prog g C) : ∀ f c, G1c g C f = some c → zb Tryd.prog f c := by
 intro f c hf
 simp only [G1c] at hf
 split at hf
 ·rename_i hg; subst hg; cases hf; exact h
 ·cases hf
def Yp (n : Nat) : Ctr := ctrP true (fun p : Ex × Nat × Nat => [p.1.exA, .int .i64 (p.2.1 : Int), .int .i64 (p.2.2 : Int)]) (fun p => p.1.size < n ∧ p.2.1 < 2 ^ 40 ∧ p.2.2 < 2 ^ 40)
 (fun p (r : Nat × Bool) => 1 ≤ r.1 ∧ r.1 ≤ p.2.1 + 1 ∧ (r.2 = true → r.1 ≤ p.2.1 → r.1 = p.1.size)) (fun _ (r : Nat × Bool) => (.tup [.int .i64 (r.1 : Int), .bool r.2], []))
def SCn (limit deep m i : Nat) : KV := [(1, .int .i64 (limit : Int)), (2, .int .i64 (deep : Int)), (3, .ptr 0 0), (8, .int .i64 (m : Int)), (9, .int .i64 (i : Int)), (20, .undef), (21, .undef), (22, .undef)]
theorem WO (n : Nat) (ih : zb Tryd.prog 30 (Yp n)) : zb Tryd.prog 30 (Yp (n + 1)) := by
 refine ze (fn := Tryd.f30) (c := Tryd.f30.body.getD .skip) rfl rfl rfl fun p hp O w0 Q hq => ?_
 obtain ⟨x, limit, deep⟩ := p
 obtain ⟨hxn, hli, hde⟩ := hp
 simp only at hxn hli hde hq
 rw [Ex.size_eq] at hxn hq
 obtain ⟨k, r, m, d, s⟩ := x
 simp only [Ex.sub] at hxn hq
 refine zc.run hmix (wZ ih) [1, 2, 3, 8, 9, 20, 21, 22] 400 (T := .ite (decide ((↑deep : Int) = 0)) (.leaf (.ret [.int .i64 1, .bool false] [.box [.int .u8 k, .str r, .str m, .int .i64 d, .sl s.length 5 (Ex.exG s)]])) (.leaf (.loop (Prod.fst (lps K30 0)) (Prod.snd (lps K30 0)) [(1, .int .i64 limit), (2, .int .i64 deep), (3, .ptr 0 0), (8, .int .i64 1), (9, .int .i64 0), (20, .undef), (21, .undef), (22, .undef)] [.box [.int .u8 k, .str r, .str m, .int .i64 d, .sl s.length 5 (Ex.exG s)]]))) (by kernel_rfl) ?_
 simp only [Tree.holds, zd]
 refine ⟨fun h0 => ?_, fun h0 => ?_⟩
 ·exact RetR.scal (hq (1, false) ⟨Nat.le_refl _, by simp, fun h => by cases h⟩) rfl (by simp [resV])
 ·have h0 : 0 < deep := by have := of_decide_eq_false h0; omega
  refine zc.loop (ι := {q : Nat × Nat // q.1 ≤ limit + 1 ∧ q.2 < q.1 ∧ q.2 ≤ s.length ∧ (q.1 ≤ limit → q.1 = 1 + Ex.zR (s.take q.2))}) (fun q => SCn limit deep q.1.1 q.1.2) (fun _ => boxE k r m d s) (fun q => s.length - q.1.2) ⟨(1, 0), by simp [Ex.zR]⟩ 0 ?_ ?_ (by kernel_rfl)
  ·exact ⟨by simp [SCn], by simp [boxE, Ex.exS, za], by kernel_rfl, Nat.zero_le _⟩
  ·rintro ⟨⟨c, i⟩, h1, h2, h3, h4⟩
   simp only at h1 h2 h3 h4
   refine zc.run hmix (wZ ih) [1, 2, 3, 8, 9, 20, 21, 22] 400 (T := .ite (bif decide ((↑i : Int) < s.length) then decide ((↑c : Int) ≤ limit) else false) (.side ((0 : Int) ≤ i ∧ (↑i : Int) < s.length) (.side (inR .i64 ((↑limit : Int) - c)) (.side (inR .i64 ((↑deep : Int) - (1 : Int))) (.ex (fun (x : Ex × Nat × Nat) => eqL [AV.agg [AV.int .u8 (Ex.kind (List.getD s (Int.toNat (↑i : Int)) Ex.nil)), AV.str (Ex.rat (List.getD s (Int.toNat (↑i : Int)) Ex.nil)), AV.str (Ex.name (List.getD s (Int.toNat (↑i : Int)) Ex.nil)), AV.int .i64 (Ex.date (List.getD s (Int.toNat (↑i : Int)) Ex.nil)), AV.sl (List.length (Ex.sub (List.getD s (Int.toNat (↑i : Int)) Ex.nil))) 5 (Ex.deep (List.getD s (Int.toNat (↑i : Int)) Ex.nil))], AV.int .i64 ((↑limit : Int) - c), AV.int .i64 ((↑deep : Int) - (1 : Int))] [AV.agg [AV.int .u8 x.1.kind, AV.str x.1.rat, AV.str x.1.name, AV.int .i64 x.1.date, AV.sl x.1.sub.length 5 (Ex.exG x.1.sub)], AV.int .i64 (↑(x.2.1) : Int), AV.int .i64 (↑(x.2.2) : Int)] ∧ Ex.size x.1 < n ∧ x.2.1 < 1099511627776 ∧ x.2.2 < 1099511627776) fun n => .all (fun (r : Nat × Bool) => 1 ≤ r.1 ∧ r.1 ≤ n.2.1 + 1 ∧ (r.2 = true → r.1 ≤ n.2.1 → r.1 = Ex.size n.1)) fun n => .ite (!Prod.snd n) (.leaf (.ret [.int .i64 c, .bool false] [.box [.int .u8 k, .str r, .str m, .int .i64 d, .sl s.length 5 (Ex.exG s)]])) (.side (inR .i64 ((↑c : Int) + n.1)) (.side (inR .i64 ((↑i : Int) + (1 : Int))) (.leaf (.back 0 [(1, .int .i64 limit), (2, .int .i64 deep), (3, .ptr 0 0), (8, .int .i64 ((↑c : Int) + n.1)), (9, .int .i64 ((↑i : Int) + (1 : Int))), (20, .undef), (21, .undef), (22, .undef)] [.box [.int .u8 k, .str r, .str m, .int .i64 d, .sl s.length 5 (Ex.exG s)]])))))))) (.leaf (.ret [.int .i64 c, .bool true] [.box [.int .u8 k, .str r, .str m, .int .i64 d, .sl s.length 5 (Ex.exG s)]]))) (by kernel_rfl) ?_
   simp only [Tree.holds, zd, inR, lo, hi, Int.toNat_natCast]
   refine ⟨fun hlt => ?_, fun hge => ?_⟩
   ·have hlt1 : i < s.length ∧ c ≤ limit := by
     by_cases g1 : i < s.length
     ·by_cases g2 : c ≤ limit
      ·exact ⟨g1, g2⟩
      ·rw [decide_eq_false (show ¬ (c : Int) ≤ limit by omega)] at hlt
       cases hx : decide ((i : Int) < s.length) <;> rw [hx] at hlt <;> cases hlt
     ·rw [decide_eq_false (show ¬ (i : Int) < s.length by omega)] at hlt
      cases hlt
    obtain ⟨hlt, hcl⟩ := hlt1
    have hg := Ex.zH hlt
    have ht := Ex.uk s i hlt
    have h4 := h4 hcl
    iterate 3 refine ⟨by omega, fun _ => ?_⟩
    refine ⟨(s.getD i Ex.nil, limit - c, deep - 1), ⟨?_, by show (s.getD i Ex.nil).size < n; omega, by show limit - c < 2 ^ 40; omega, by show deep - 1 < 2 ^ 40; omega⟩, ⟨(1, false), Nat.le_refl _, by simp, fun h => by cases h⟩, ?_⟩
    ·have e1 : (limit : Int) - c = ((limit - c : Nat) : Int) := by omega
     have e2 : (deep : Int) - 1 = ((deep - 1 : Nat) : Int) := by omega
     rw [e1, e2]
     exact ⟨⟨⟨rfl, rfl⟩, rfl, rfl, ⟨rfl, rfl⟩, ⟨rfl, rfl, Ex.qU _⟩, trivial⟩, ⟨rfl, rfl⟩, ⟨rfl, rfl⟩, trivial⟩
    rintro ⟨m', b⟩ ⟨g1, g2, g3⟩
    simp only at g1 g2 g3
    refine ⟨fun hb => ?_, fun hb => ?_⟩
    ·exact RetR.scal (hq (c, false) ⟨by show 1 ≤ c; omega, by show c ≤ limit + 1; omega, fun h => by cases h⟩) rfl (by simp [resV])
    ·have hb : b = true := by simpa using hb
     refine ⟨by omega, fun _ => ⟨by omega, fun _ => ?_⟩⟩
     rw [if_pos trivial]
     refine ⟨⟨(c + m', i + 1), ?_, ?_, hlt, ?_⟩, by show s.length - (i + 1) < s.length - i; omega, ?_, by simp [boxE, Ex.exS, za], by kernel_rfl, Nat.zero_le _⟩
     ·show c + m' ≤ limit + 1; omega
     ·show i + 1 < c + m'; omega
     ·show c + m' ≤ limit → c + m' = 1 + Ex.zR (s.take (i + 1))
      intro hle
      have := g3 hb (by omega)
      omega
     ·simp [SCn]
   ·refine RetR.scal (hq (c, true) ⟨by show 1 ≤ c; omega, h1, fun _ hle => ?_⟩) rfl (by simp [resV])
    simp only at hle
    have hge : i = s.length := by
     by_cases g1 : i < s.length
     ·rw [decide_eq_true (show (i : Int) < s.length by omega), decide_eq_true (show (c : Int) ≤ limit by omega)] at hge
      cases hge
     ·omega
    have h4 := h4 hle
    rw [hge, List.take_length] at h4
    exact h4
theorem Ur : zb Tryd.prog 30 (ctrP true (fun p : Ex × Nat × Nat => [p.1.exA, .int .i64 (p.2.1 : Int), .int .i64 (p.2.2 : Int)]) (fun p => p.2.1 < 2 ^ 40 ∧ p.2.2 < 2 ^ 40)
 (fun p (r : Nat × Bool) => 1 ≤ r.1 ∧ r.1 ≤ p.2.1 + 1 ∧ (r.2 = true → r.1 ≤ p.2.1 → r.1 = p.1.size)) (fun _ (r : Nat × Bool) => (.tup [.int .i64 (r.1 : Int), .bool r.2], []))) := wM (fun p => p.1.size) WO
def Yy (n : Nat) : Ctr := ctrP true (fun x : Ex => [x.exA]) (fun x => x.size < n ∧ x.size < 2 ^ 60 ∧ x.zx < 2 ^ 60) (fun x r => r = x.zx) (fun _ (r : Nat) => (.int .i64 (r : Int), []))
def SBy (c i : Nat) : KV := [(1, .ptr 0 0), (3, .int .i64 (c : Int)), (4, .int .i64 (i : Int))]
theorem Vp (n : Nat) (ih : zb Tryd.prog 31 (Yy n)) : zb Tryd.prog 31 (Yy (n + 1)) := by
 refine ze (fn := Tryd.f31) (c := Tryd.f31.body.getD .skip) rfl rfl rfl fun x hx O w0 Q hq => ?_
 replace hq := hq _ rfl
 obtain ⟨hxn, hxs, hxb⟩ := hx
 rw [Ex.Zv] at hq hxb
 rw [Ex.size_eq] at hxn hxs
 obtain ⟨k, r, m, d, s⟩ := x
 simp only [Ex.sub, Ex.rat, Ex.name] at hxn hxs hq hxb
 refine zc.run hmix (wZ ih) [1, 3, 4] 400 (T := .side (inR .i64 ((↑r.length : Int) + m.length)) (.leaf (.loop (Prod.fst (lps K31 0)) (Prod.snd (lps K31 0)) [(1, .ptr 0 0), (3, .int .i64 ((↑r.length : Int) + m.length)), (4, .int .i64 0)] [.box [.int .u8 k, .str r, .str m, .int .i64 d, .sl s.length 5 (Ex.exG s)]]))) (by kernel_rfl) ?_
 simp only [Tree.holds, zd, inR, lo, hi, Int.toNat_natCast]
 have hlen := Ex.qc s
 refine ⟨by omega, fun _ => ?_⟩
 refine zc.loop (ι := {i : Nat // i ≤ s.length}) (fun i => SBy (r.length + m.length + Ex.zN (s.take i.1)) i.1) (fun _ => boxE k r m d s) (fun i => s.length - i.1) ⟨0, Nat.zero_le _⟩ 0 ?_ ?_ (by kernel_rfl)
 ·exact ⟨by simp [SBy, Ex.zN], by simp [boxE, Ex.exS, za], by kernel_rfl, Nat.zero_le _⟩
 ·rintro ⟨i, hil⟩
  have hle := Ex.vS s i
  obtain ⟨c, hc⟩ : ∃ c, r.length + m.length + Ex.zN (s.take i) = c := ⟨_, rfl⟩
  simp only [hc]
  refine zc.run hmix (wZ ih) [1, 3, 4] 400 (T := .ite (decide ((↑i : Int) < s.length)) (.side ((0 : Int) ≤ i ∧ (↑i : Int) < s.length) (.ex (fun (x : Ex) => eqL [AV.agg [AV.int .u8 (Ex.kind (List.getD s (Int.toNat (↑i : Int)) Ex.nil)), AV.str (Ex.rat (List.getD s (Int.toNat (↑i : Int)) Ex.nil)), AV.str (Ex.name (List.getD s (Int.toNat (↑i : Int)) Ex.nil)), AV.int .i64 (Ex.date (List.getD s (Int.toNat (↑i : Int)) Ex.nil)), AV.sl (List.length (Ex.sub (List.getD s (Int.toNat (↑i : Int)) Ex.nil))) 5 (Ex.deep (List.getD s (Int.toNat (↑i : Int)) Ex.nil))]] [AV.agg [AV.int .u8 x.kind, AV.str x.rat, AV.str x.name, AV.int .i64 x.date, AV.sl x.sub.length 5 (Ex.exG x.sub)]] ∧ Ex.size x < n ∧ Ex.size x < 1152921504606846976 ∧ Ex.zx x < 1152921504606846976) fun n => .all (fun (r : Nat) => r = Ex.zx n) fun n => .side (inR .i64 ((↑c : Int) + n)) (.side (inR .i64 ((↑i : Int) + (1 : Int))) (.leaf (.back 0 [(1, .ptr 0 0), (3, .int .i64 ((↑c : Int) + n)), (4, .int .i64 ((↑i : Int) + (1 : Int)))] [.box [.int .u8 k, .str r, .str m, .int .i64 d, .sl s.length 5 (Ex.exG s)]]))))) (.leaf (.ret [.int .i64 c] [.box [.int .u8 k, .str r, .str m, .int .i64 d, .sl s.length 5 (Ex.exG s)]]))) (by kernel_rfl) ?_
  simp only [Tree.holds, zd, inR, lo, hi, Int.toNat_natCast]
  refine ⟨fun hlt => ?_, fun hge => ?_⟩
  ·have hlt : i < s.length := by have := of_decide_eq_true hlt; omega
   have hg := Ex.zH hlt
   have hg2 := Ex.uW hlt
   have ht := Ex.Jy s i hlt
   have hle2 := Ex.vS s (i + 1)
   refine ⟨by omega, fun _ => ⟨s.getD i Ex.nil, ⟨xc rfl rfl rfl rfl rfl (Ex.qU _), by omega, by omega, by omega⟩, ⟨_, rfl⟩, ?_⟩⟩
   rintro _ rfl
   refine ⟨by omega, fun _ => ⟨by omega, fun _ => ?_⟩⟩
   rw [if_pos trivial]
   refine ⟨⟨i + 1, hlt⟩, by show s.length - (i + 1) < s.length - i; omega, ?_, by simp [boxE, Ex.exS, za], by kernel_rfl, Nat.zero_le _⟩
   simp [SBy, ht]; omega
  ·have hge : i = s.length := by have := of_decide_eq_false hge; omega
   subst hge
   rw [List.take_length] at hc
   rw [hc] at hq
   exact RetR.scal hq rfl (by simp [resV])
theorem XB : zb Tryd.prog 31 (ctrP true (fun x : Ex => [x.exA]) (fun x => x.size < 2 ^ 60 ∧ x.zx < 2 ^ 60) (fun x r => r = x.zx) (fun _ (r : Nat) => (.int .i64 (r : Int), []))) := wM Ex.size Vp
end Go.Proofs.Tryd
end

/- Expressions: the depth. -/
section
set_option maxRecDepth 100000
open Go Go.Sx Go.Proofs Go.Nov
namespace Go.Proofs.Tryd
attribute [local simp] eqKV eqA eqA0 eqH eqB eqL eqL0
noncomputable def K53 : List Go.Sx.Item := [.code (Tryd.f53.body.getD .skip)]
def Yl (n : Nat) : Ctr := ctrP true (fun p : Ex × Nat => [p.1.exA, .int .i64 (p.2 : Int)]) (fun p => p.1.size < n ∧ p.1.size < 2 ^ 62 ∧ p.2 < 2 ^ 40) (fun p r => r = min p.1.depth (p.2 + 1)) (fun _ (r : Nat) => (.int .i64 (r : Int), []))
def SDp (s : List Ex) (limit c i : Nat) : KV := [(1, .int .i64 (limit : Int)), (5, .int .i64 (c : Int)), (11, Ex.exS s), (12, .int .i64 (s.length : Int)), (13, .int .i64 (i : Int))]
theorem Vj (n : Nat) (ih : zb Tryd.prog 53 (Yl n)) : zb Tryd.prog 53 (Yl (n + 1)) := by
 refine ze (fn := Tryd.f53) (c := Tryd.f53.body.getD .skip) rfl rfl rfl fun p hp O w0 Q hq => ?_
 obtain ⟨x, limit⟩ := p
 obtain ⟨hxn, hxs, hli⟩ := hp
 replace hq := hq _ rfl
 simp only at hxn hxs hli hq
 have hds := Ex.Zo x
 have hdp := Ex.Xw x
 rw [Ex.uI] at hq hds hdp
 rw [Ex.size_eq] at hxn hxs hds
 obtain ⟨k, r, m, d, s⟩ := x
 simp only [Ex.sub] at hxn hxs hq hds hdp
 have hlen := Ex.qc s
 refine zc.run hmix (wZ ih) [1, 5, 11, 12, 13] 400 (T := .ite (decide ((0 : Int) < limit)) (.leaf (.loop (Prod.fst (lps K53 0)) (Prod.snd (lps K53 0)) [(1, .int .i64 limit), (5, .int .i64 0), (11, .sl s.length 5 (Ex.exG s)), (12, .int .i64 s.length), (13, .int .i64 0)] [.box [.int .u8 k, .str r, .str m, .int .i64 d, .sl s.length 5 (Ex.exG s)]])) (.side (inR .i64 (1 : Int)) (.leaf (.ret [.int .i64 1] [.box [.int .u8 k, .str r, .str m, .int .i64 d, .sl s.length 5 (Ex.exG s)]])))) (by kernel_rfl) ?_
 simp only [Tree.holds, zd, inR, lo, hi, Int.toNat_natCast]
 refine ⟨fun hl => ?_, fun hl => ?_⟩
 ·have hl : 0 < limit := by have := of_decide_eq_true hl; omega
  refine zc.loop (ι := {i : Nat // i ≤ s.length}) (fun i => SDp s limit (min (Ex.qM (s.take i.1)) limit) i.1) (fun _ => []) (fun i => s.length - i.1) ⟨0, Nat.zero_le _⟩ 0 ?_ ?_ (by kernel_rfl)
  ·exact ⟨by simp [SDp, Ex.qM, Ex.exS, za], by simp, by kernel_rfl, Nat.zero_le _⟩
  ·rintro ⟨i, hil⟩
   obtain ⟨c, hc⟩ : ∃ c, min (Ex.qM (s.take i)) limit = c := ⟨_, rfl⟩
   simp only [hc]
   refine zc.run hmix (wZ ih) [1, 5, 11, 12, 13] 400 (T := .ite (decide ((↑i : Int) < s.length)) (.side ((0 : Int) ≤ i ∧ (↑i : Int) < s.length) (.side (inR .i64 ((↑limit : Int) - (1 : Int))) (.ex (fun (x : Ex × Nat) => eqL [AV.agg [AV.int .u8 (Ex.kind (List.getD s (Int.toNat (↑i : Int)) Ex.nil)), AV.str (Ex.rat (List.getD s (Int.toNat (↑i : Int)) Ex.nil)), AV.str (Ex.name (List.getD s (Int.toNat (↑i : Int)) Ex.nil)), AV.int .i64 (Ex.date (List.getD s (Int.toNat (↑i : Int)) Ex.nil)), AV.sl (List.length (Ex.sub (List.getD s (Int.toNat (↑i : Int)) Ex.nil))) 5 (Ex.deep (List.getD s (Int.toNat (↑i : Int)) Ex.nil))], AV.int .i64 ((↑limit : Int) - (1 : Int))] [AV.agg [AV.int .u8 x.1.kind, AV.str x.1.rat, AV.str x.1.name, AV.int .i64 x.1.date, AV.sl x.1.sub.length 5 (Ex.exG x.1.sub)], AV.int .i64 x.2] ∧ Ex.size x.1 < n ∧ Ex.size x.1 < 4611686018427387904 ∧ x.2 < 1099511627776) fun n => .all (fun (r : Nat) => r = min n.1.depth (n.2 + 1)) fun n => .side (inR .i64 ((↑i : Int) + (1 : Int))) (.leaf (.back 0 [(1, .int .i64 limit), (5, .int .i64 (max (↑c : Int) (↑n : Int))), (11, .sl s.length 5 (Ex.exG s)), (12, .int .i64 s.length), (13, .int .i64 ((↑i : Int) + (1 : Int)))] [.box [.int .u8 (Ex.kind (List.getD s (Int.toNat (↑i : Int)) Ex.nil)), .str (Ex.rat (List.getD s (Int.toNat (↑i : Int)) Ex.nil)), .str (Ex.name (List.getD s (Int.toNat (↑i : Int)) Ex.nil)), .int .i64 (Ex.date (List.getD s (Int.toNat (↑i : Int)) Ex.nil)), .sl (List.length (Ex.sub (List.getD s (Int.toNat (↑i : Int)) Ex.nil))) 5 (Ex.deep (List.getD s (Int.toNat (↑i : Int)) Ex.nil))]]))))) (.side (inR .i64 ((↑c : Int) + (1 : Int))) (.leaf (.ret [.int .i64 ((↑c : Int) + (1 : Int))] [])))) (by kernel_rfl) ?_
   simp only [Tree.holds, zd, inR, lo, hi, Int.toNat_natCast]
   refine ⟨fun hlt => ?_, fun hge => ?_⟩
   ·have hlt : i < s.length := by have := of_decide_eq_true hlt; omega
    have hg := Ex.zH hlt
    have ht := Ex.Jq s i hlt
    refine ⟨by omega, fun _ => ⟨by omega, fun _ => ⟨(s.getD i Ex.nil, limit - 1), ⟨?_, by show (s.getD i Ex.nil).size < n; omega, by show (s.getD i Ex.nil).size < 2 ^ 62; omega, by show limit - 1 < 2 ^ 40; omega⟩, ⟨_, rfl⟩, ?_⟩⟩⟩
    ·have e1 : (limit : Int) - 1 = ((limit - 1 : Nat) : Int) := by omega
     rw [e1]
     exact ⟨⟨⟨rfl, rfl⟩, rfl, rfl, ⟨rfl, rfl⟩, ⟨rfl, rfl, Ex.qU _⟩, trivial⟩, ⟨rfl, rfl⟩, trivial⟩
    rintro _ rfl
    refine ⟨by omega, fun _ => ?_⟩
    rw [if_pos trivial]
    refine ⟨⟨i + 1, hlt⟩, by show s.length - (i + 1) < s.length - i; omega, ?_, by simp, by kernel_rfl, Nat.zero_le _⟩
    simp [SDp, ht, Ex.exS, za]; omega
   ·have hge : i = s.length := by have := of_decide_eq_false hge; omega
    subst hge
    rw [List.take_length] at hc
    refine ⟨by omega, fun _ => ?_⟩
    exact RetR.scal hq rfl (by simp [resV]; omega)
 ·have hl : limit = 0 := by have := of_decide_eq_false hl; omega
  refine ⟨by decide, fun _ => ?_⟩
  exact RetR.scal hq rfl (by simp [resV]; omega)
theorem Ug : zb Tryd.prog 53 (ctrP true (fun p : Ex × Nat => [p.1.exA, .int .i64 (p.2 : Int)]) (fun p => p.1.size < 2 ^ 62 ∧ p.2 < 2 ^ 40) (fun p r => r = min p.1.depth (p.2 + 1)) (fun _ (r : Nat) => (.int .i64 (r : Int), []))) := wM (fun p => p.1.size) Vj
end Go.Proofs.Tryd
end

/- Expressions: what the statements consider; the sorts. -/
section
set_option maxRecDepth 100000
open Go Go.Sx Go.Proofs Go.Nov
namespace Go.Proofs.Tryd
attribute [local simp] eqKV eqA eqA0 eqH eqB eqL eqL0
noncomputable def K32 : List Go.Sx.Item := [.code (Tryd.f32.body.getD .skip)]
def Ul : Ctr := ctrP true (fun p : Ex × Nat × Nat => [p.1.exA, .int .i64 (p.2.1 : Int), .int .i64 (p.2.2 : Int)]) (fun p => p.2.1 < 2 ^ 40 ∧ p.2.2 < 2 ^ 40)
 (fun p (r : Nat × Bool) => 1 ≤ r.1 ∧ r.1 ≤ p.2.1 + 1 ∧ (r.2 = true → r.1 ≤ p.2.1 → r.1 = p.1.size)) (fun _ (r : Nat × Bool) => (.tup [.int .i64 (r.1 : Int), .bool r.2], []))
def U1 : Ctr := ctrP true (fun x : Ex => [x.exA]) (fun x => x.size < 2 ^ 60 ∧ x.zx < 2 ^ 60) (fun x r => r = x.zx) (fun _ (r : Nat) => (.int .i64 (r : Int), []))
def YD : Ctr := ctrP true (fun x : Ex => [x.exA]) (fun x => x.thin) (fun x r => r = false → x.size ≤ 600 ∧ x.zx ≤ 3000) (fun _ (r : Bool) => (.bool r, []))
noncomputable def GGt : Nat → Option Ctr := fun f => if f = 30 then some (Ul) else if f = 31 then some (U1) else none
theorem zdq : ∀ g c, GGt g = some c → zb Tryd.prog g c := okIf Ur (okIf XB (zn))
theorem KM : zb Tryd.prog 8 YD := by
 refine ze (fn := Tryd.f8) (c := Tryd.f8.body.getD .skip) rfl rfl rfl fun x hx O w0 Q hq => ?_
 have hb := Ex.Z6 x hx
 obtain ⟨k, r, m, d, s⟩ := x
 refine zc.run hmix zdq [] 400 (T := .ex (fun (x : Ex × Nat × Nat) => eqL [AV.agg [AV.int .u8 k, AV.str r, AV.str m, AV.int .i64 d, AV.sl s.length 5 (Ex.exG s)], AV.int .i64 600, AV.int .i64 100] [AV.agg [AV.int .u8 x.1.kind, AV.str x.1.rat, AV.str x.1.name, AV.int .i64 x.1.date, AV.sl x.1.sub.length 5 (Ex.exG x.1.sub)], AV.int .i64 (↑(x.2.1) : Int), AV.int .i64 (↑(x.2.2) : Int)] ∧ x.2.1 < 1099511627776 ∧ x.2.2 < 1099511627776) fun n => .all (fun (r : Nat × Bool) => 1 ≤ r.1 ∧ r.1 ≤ n.2.1 + 1 ∧ (r.2 = true → r.1 ≤ n.2.1 → r.1 = Ex.size n.1)) fun n => .ex (fun (x : Ex) => (bif !Prod.snd n then true else decide ((600 : Int) < n.1)) = false → eqL [AV.agg [AV.int .u8 k, AV.str r, AV.str m, AV.int .i64 d, AV.sl s.length 5 (Ex.exG s)]] [AV.agg [AV.int .u8 x.kind, AV.str x.rat, AV.str x.name, AV.int .i64 x.date, AV.sl x.sub.length 5 (Ex.exG x.sub)]] ∧ Ex.size x < 1152921504606846976 ∧ Ex.zx x < 1152921504606846976) fun n_1 => .all (fun (x : Nat) => (bif !Prod.snd n then true else decide ((600 : Int) < n.1)) = false → x = Ex.zx n_1) fun n_2 => .leaf (.ret [.bool (bif bif !Prod.snd n then true else decide ((600 : Int) < n.1) then true else decide ((3000 : Int) < n_2))] [.box [.int .u8 k, .str r, .str m, .int .i64 d, .sl s.length 5 (Ex.exG s)]])) (by kernel_rfl) ?_
 simp only [Tree.holds, zd, inR, lo, hi, Int.toNat_natCast]
 refine ⟨(.mk k r m d s, 600, 100), ⟨⟨⟨⟨rfl, rfl⟩, rfl, rfl, ⟨rfl, rfl⟩, ⟨rfl, rfl, za _ _ _⟩, trivial⟩, ⟨rfl, rfl⟩, ⟨rfl, rfl⟩, trivial⟩, by show 600 < 1099511627776; omega, by show 100 < 1099511627776; omega⟩, ⟨(1, false), Nat.le_refl _, by show 1 ≤ 600 + 1; omega, fun h => by cases h⟩, ?_⟩
 rintro ⟨c, b⟩ ⟨g1, g2, g3⟩
 simp only at g1 g2 g3
 have hsz : (bif !b then true else decide (600 < (c : Int))) = false → (Ex.mk k r m d s).size ≤ 600 := by
  intro h
  cases b with
  | false => cases h
  | true =>
   have h : ¬ 600 < (c : Int) := of_decide_eq_false h
   have := g3 rfl (by omega)
   omega
 refine ⟨.mk k r m d s, fun h => ⟨⟨⟨⟨rfl, rfl⟩, rfl, rfl, ⟨rfl, rfl⟩, ⟨rfl, rfl, za _ _ _⟩, trivial⟩, trivial⟩, by have := hsz h; omega, by have := hsz h; omega⟩, ⟨_, fun _ => rfl⟩, ?_⟩
 intro c2 hc2
 refine RetR.scal (hq (bif (bif !b then true else decide (600 < (c : Int))) then true else decide (3000 < (c2 : Int))) fun h => ?_) rfl (by simp [resV])
 cases ht : (bif !b then true else decide (600 < (c : Int))) with
 | true => rw [ht] at h; cases h
 | false =>
  rw [ht] at h
  have h2 := hc2 ht
  have h : ¬ 3000 < (c2 : Int) := of_decide_eq_false h
  exact ⟨hsz ht, by omega⟩
def zd1 : Ctr := ctrP true (fun x : Ex => [x.exA]) (fun x => x.rat.length < 2 ^ 40 ∧ x.name.length < 2 ^ 40) (fun x r => r = bif qQ x.kind x.rat x.name x.date x.sub.length then 1 else 0) (fun _ (r : Int) => (.int .u8 r, []))
noncomputable def GLf : Nat → Option Ctr := fun f => if f = 36 then some (x2) else if f = 25 then some (Wu) else if f = 35 then some (xG) else none
theorem zdi : ∀ g c, GLf g = some c → zb Tryd.prog g c := okIf kz (okIf QN (okIf k9 (zn)))
theorem zc1 : zb Tryd.prog 54 zd1 := by
 refine ze (fn := Tryd.f54) (c := Tryd.f54.body.getD .skip) rfl rfl rfl fun x hx O w0 Q hq => ?_
 obtain ⟨k, r, m, d, s⟩ := x
 replace hq := hq _ rfl
 obtain ⟨h1, h2⟩ := hx
 simp only [Ex.rat, Ex.name, Ex.kind, Ex.date, Ex.sub] at h1 h2 hq
 refine zc.run hmix zdi [] 400 (T := .ite (decide (k = 1)) (.ex (fun (x : List UInt8) => decide ((↑s.length : Int) = 0) = true → eqL [AV.str r] [AV.str x] ∧ x.length < 4611686018427387904) fun n => .all (fun (x : Int) => decide ((↑s.length : Int) = 0) = true → x = errR n) fun n => .ite (!bif bif bif decide ((↑s.length : Int) = 0) then decide (n = 0) else false then decide (m = Array.toList #[]) else false then decide (d = 0) else false) (.leaf (.ret [.int .u8 0] [.box [.int .u8 k, .str r, .str m, .int .i64 d, .sl s.length 5 (Ex.exG s)]])) (.leaf (.ret [.int .u8 1] [.box [.int .u8 k, .str r, .str m, .int .i64 d, .sl s.length 5 (Ex.exG s)]]))) (.ite (decide (k = 2)) (.ex (fun (x : List UInt8) => (bif decide ((↑s.length : Int) = 0) then decide (r = Array.toList #[]) else false) = true → eqL [AV.str m] [AV.str x] ∧ x.length < 4611686018427387904) fun n => .all (fun (x : Bool) => (bif decide ((↑s.length : Int) = 0) then decide (r = Array.toList #[]) else false) = true → x = qK n) fun n => .ex (fun (x : Int) => (bif bif decide ((↑s.length : Int) = 0) then decide (r = Array.toList #[]) else false then n else false) = true → eqL [AV.int .i64 d] [AV.int .i64 x] ∧ True) fun n_1 => .all (fun (x : Bool) => (bif bif decide ((↑s.length : Int) = 0) then decide (r = Array.toList #[]) else false then n else false) = true → x = dayB n_1) fun n_2 => .ite (!bif bif bif decide ((↑s.length : Int) = 0) then decide (r = Array.toList #[]) else false then n else false then n_2 else false) (.leaf (.ret [.int .u8 0] [.box [.int .u8 k, .str r, .str m, .int .i64 d, .sl s.length 5 (Ex.exG s)]])) (.leaf (.ret [.int .u8 1] [.box [.int .u8 k, .str r, .str m, .int .i64 d, .sl s.length 5 (Ex.exG s)]]))) (.ite (decide (k = 3)) (.ex (fun (x : List UInt8) => (bif decide ((↑s.length : Int) = 0) then decide (r = Array.toList #[]) else false) = true → eqL [AV.str m] [AV.str x] ∧ x.length < 4611686018427387904) fun n => .all (fun (x : Bool) => (bif decide ((↑s.length : Int) = 0) then decide (r = Array.toList #[]) else false) = true → x = qK n) fun n => .ite (!bif bif bif decide ((↑s.length : Int) = 0) then decide (r = Array.toList #[]) else false then n else false then decide (d = 0) else false) (.leaf (.ret [.int .u8 0] [.box [.int .u8 k, .str r, .str m, .int .i64 d, .sl s.length 5 (Ex.exG s)]])) (.leaf (.ret [.int .u8 1] [.box [.int .u8 k, .str r, .str m, .int .i64 d, .sl s.length 5 (Ex.exG s)]]))) (.ite true (.leaf (.ret [.int .u8 0] [.box [.int .u8 k, .str r, .str m, .int .i64 d, .sl s.length 5 (Ex.exG s)]])) (.leaf (.ret [.int .u8 1] [.box [.int .u8 k, .str r, .str m, .int .i64 d, .sl s.length 5 (Ex.exG s)]])))))) (by kernel_rfl) ?_
 simp only [Tree.holds, zd, inR, lo, hi, Int.toNat_natCast]
 have fin : ∀ T : Bool, T = qQ k r m d s.length → ((!T) = true → Q (.int .u8 0, [])) ∧ ((!T) = false → Q (.int .u8 1, [])) := by
  intro T hT
  subst hT
  cases hl : qQ k r m d s.length with
  | true => rw [hl] at hq; exact ⟨fun h => (by cases h), fun _ => hq⟩
  | false => rw [hl] at hq; exact ⟨fun _ => hq, fun h => (by cases h)⟩
 refine ⟨fun hk => ?_, fun hk => ?_⟩
 ·have hk : k = 1 := of_decide_eq_true hk
  refine ⟨r, fun _ => ⟨by simp, by omega⟩, ⟨_, fun _ => rfl⟩, ?_⟩
  intro e he
  have F := fin (bif bif bif decide ((s.length : Int) = 0) then decide (e = 0) else false then decide (m = []) else false then decide (d = 0) else false) (by
   by_cases hl : s.length = 0
   ·have := he (by simp [hl])
    subst this
    simp [qQ, hk, hl, Bool.and_assoc]
   ·simp [qQ, hl])
  exact ⟨fun h => RetR.scal (F.1 h) rfl (by simp [resV]), fun h => RetR.scal (F.2 h) rfl (by simp [resV])⟩
 ·have hk1 : k ≠ 1 := of_decide_eq_false hk
  refine ⟨fun hk => ?_, fun hk => ?_⟩
  ·have hk : k = 2 := of_decide_eq_true hk
   refine ⟨m, fun _ => ⟨by simp, by omega⟩, ⟨_, fun _ => rfl⟩, ?_⟩
   intro e he
   refine ⟨d, fun _ => ⟨by simp, trivial⟩, ⟨_, fun _ => rfl⟩, ?_⟩
   intro f hf
   have F := fin (bif bif bif decide ((s.length : Int) = 0) then decide (r = []) else false then e else false then f else false) (by
    by_cases hl : s.length = 0
    ·by_cases hr : r = []
     ·have := he (by simp [hl, hr])
      subst this
      cases hn : qK m with
      | true =>
       have := hf (by simp [hl, hr, hn])
       subst this
       simp [qQ, hk, hl, hr, hn]
      | false => simp [qQ, hk, hl, hr, hn]
     ·simp [qQ, hk, hl, hr]
    ·simp [qQ, hl])
   exact ⟨fun h => RetR.scal (F.1 h) rfl (by simp [resV]), fun h => RetR.scal (F.2 h) rfl (by simp [resV])⟩
  ·have hk2 : k ≠ 2 := of_decide_eq_false hk
   refine ⟨fun hk => ?_, fun hk => ?_⟩
   ·have hk : k = 3 := of_decide_eq_true hk
    refine ⟨m, fun _ => ⟨by simp, by omega⟩, ⟨_, fun _ => rfl⟩, ?_⟩
    intro e he
    have F := fin (bif bif bif decide ((s.length : Int) = 0) then decide (r = []) else false then e else false then decide (d = 0) else false) (by
     by_cases hl : s.length = 0
     ·by_cases hr : r = []
      ·have := he (by simp [hl, hr])
       subst this
       simp [qQ, hk, hl, hr]
      ·simp [qQ, hk, hl, hr]
     ·simp [qQ, hl])
    exact ⟨fun h => RetR.scal (F.1 h) rfl (by simp [resV]), fun h => RetR.scal (F.2 h) rfl (by simp [resV])⟩
   ·have hk3 : k ≠ 3 := of_decide_eq_false hk
    have F := fin false (by simp [qQ, hk1, hk2, hk3])
    exact ⟨fun h => RetR.scal (F.1 rfl) rfl (by simp [resV]), fun h => by cases h⟩
def SSo (s : List Ex) (i : Nat) : KV := [(3, .ptr 1 0), (41, Ex.exS s), (42, .int .i64 (s.length : Int)), (43, .int .i64 (i : Int))]
def HSo (k : Int) : Heap := [.dead, .box [.sl (jb k) 1 fun j _ => .int .u8 (qk k j), .int .u8 (qG k)]]
def K5 (n : Nat) : Ctr := ctrP true (fun x : Ex => [x.exA]) (fun x => x.size < n ∧ x.size < 2 ^ 60 ∧ x.zx < 2 ^ 40) (fun x r => r = x.zt) (fun _ (r : Int) => (.int .u8 r, []))
def GSo (n : Nat) : Nat → Option Ctr := fun f => if f = 32 then some (K5 n) else if f = 54 then some zd1 else none
theorem YL {n : Nat} (h : zb Tryd.prog 32 (K5 n)) : ∀ f c, GSo n f = some c → zb Tryd.prog f c := by
 intro f c hf
 simp only [GSo] at hf
 split at hf
 ·rename_i hg; subst hg; cases hf; exact h
 ·split at hf
  ·rename_i hg; subst hg; cases hf; exact zc1
  ·cases hf
theorem Xj (n : Nat) (ih : zb Tryd.prog 32 (K5 n)) : zb Tryd.prog 32 (K5 (n + 1)) := by
 refine ze (fn := Tryd.f32) (c := Tryd.f32.body.getD .skip) rfl rfl rfl fun x hx O w0 Q hq => ?_
 replace hq := hq _ rfl
 obtain ⟨hxn, hxs, hxb⟩ := hx
 rw [Ex.size_eq] at hxn hxs
 rw [Ex.Zv] at hxb
 rw [Ex.yY] at hq
 obtain ⟨k, r, m, d, s⟩ := x
 simp only [Ex.sub, Ex.rat, Ex.name, Ex.kind, Ex.date] at hxn hxs hq hxb
 refine zc.run hmix (YL ih) [3, 41, 42, 43] 400 (T := .ite (qt k) (.ite false (.ex (fun (x : Ex) => eqL [AV.agg [AV.int .u8 k, AV.str r, AV.str m, AV.int .i64 d, AV.sl s.length 5 (Ex.exG s)]] [AV.agg [AV.int .u8 x.kind, AV.str x.rat, AV.str x.name, AV.int .i64 x.date, AV.sl x.sub.length 5 (Ex.exG x.sub)]] ∧ x.rat.length < 1099511627776 ∧ x.name.length < 1099511627776) fun n => .all (fun (r : Int) => r = bif qQ n.kind n.rat n.name n.date n.sub.length then (1 : Int) else (0 : Int)) fun n => .leaf (.ret [.int .u8 n] [.box [.int .u8 k, .str r, .str m, .int .i64 d, .sl s.length 5 (Ex.exG s)], .box [.sl (jb k) 1 fun (j x : Nat) => .int .u8 (qk k j), .int .u8 (qG k)]])) (.ite (bif bif bif !decide ((↑s.length : Int) = (↑(jb k) : Int)) then true else !decide (r = Array.toList #[]) then true else !decide (m = Array.toList #[]) then true else !decide (d = 0)) (.leaf (.ret [.int .u8 0] [.box [.int .u8 k, .str r, .str m, .int .i64 d, .sl s.length 5 (Ex.exG s)], .box [.sl (jb k) 1 fun (j x : Nat) => .int .u8 (qk k j), .int .u8 (qG k)]])) (.leaf (.loop (Prod.fst (lps K32 0)) (Prod.snd (lps K32 0)) [(3, .ptr 1 0), (41, .sl s.length 5 (Ex.exG s)), (42, .int .i64 s.length), (43, .int .i64 0)] [.box [.int .u8 k, .str r, .str m, .int .i64 d, .sl s.length 5 (Ex.exG s)], .box [.sl (jb k) 1 fun (j x : Nat) => .int .u8 (qk k j), .int .u8 (qG k)]])))) (.ite true (.ex (fun (x : Ex) => eqL [AV.agg [AV.int .u8 k, AV.str r, AV.str m, AV.int .i64 d, AV.sl s.length 5 (Ex.exG s)]] [AV.agg [AV.int .u8 x.kind, AV.str x.rat, AV.str x.name, AV.int .i64 x.date, AV.sl x.sub.length 5 (Ex.exG x.sub)]] ∧ x.rat.length < 1099511627776 ∧ x.name.length < 1099511627776) fun n => .all (fun (r : Int) => r = bif qQ n.kind n.rat n.name n.date n.sub.length then (1 : Int) else (0 : Int)) fun n => .leaf (.ret [.int .u8 n] [.box [.int .u8 k, .str r, .str m, .int .i64 d, .sl s.length 5 (Ex.exG s)], .box [.nils, .int .u8 0]])) (.ite (bif bif bif !decide ((↑s.length : Int) = 0) then true else !decide (r = Array.toList #[]) then true else !decide (m = Array.toList #[]) then true else !decide (d = 0)) (.leaf (.ret [.int .u8 0] [.box [.int .u8 k, .str r, .str m, .int .i64 d, .sl s.length 5 (Ex.exG s)], .box [.nils, .int .u8 0]])) (.leaf (.loop (Prod.fst (lps K32 0)) (Prod.snd (lps K32 0)) [(3, .ptr 1 0), (41, .sl s.length 5 (Ex.exG s)), (42, .int .i64 s.length), (43, .int .i64 0)] [.box [.int .u8 k, .str r, .str m, .int .i64 d, .sl s.length 5 (Ex.exG s)], .box [.nils, .int .u8 0]]))))) (by kernel_rfl) ?_
 simp only [Tree.holds, zd, inR, lo, hi, Int.toNat_natCast]
 refine ⟨fun hk => ⟨fun h => (by cases h), fun _ => ⟨fun h => ?_, fun h => ?_⟩⟩, fun hk => ?_⟩
 ·have hn : ¬ (r = [] ∧ m = [] ∧ d = 0 ∧ Ex.qh s = qf k) := by
   rintro ⟨rfl, rfl, rfl, h4⟩
   have : s.length = jb k := by rw [← Ex.qZ, h4]; rfl
   simp [this] at h
  have e : wx k r m d (Ex.qh s) = 0 := by unfold wx; rw [if_pos hk, if_neg hn]
  exact RetR.scal hq rfl (by simp [resV, e])
 ·have hh : s.length = jb k ∧ r = [] ∧ m = [] ∧ d = 0 := by
   simp at h
   obtain ⟨⟨⟨h1, h2⟩, h3⟩, h4⟩ := h
   exact ⟨by omega, h2, h3, h4⟩
  obtain ⟨hl, rfl, rfl, rfl⟩ := hh
  have hlen := Ex.qc s
  have e1 : wx k [] [] 0 (Ex.qh s) = if Ex.qh s = qf k then qG k else 0 := by unfold wx; rw [if_pos hk]; simp
  rw [e1] at hq
  clear h e1
  refine zc.loop (ι := {i : Nat // i ≤ s.length ∧ ∀ j, j < i → (s.getD j Ex.nil).zt = qk k j}) (fun i => SSo s i.1) (fun _ => HSo k) (fun i => s.length - i.1) ⟨0, Nat.zero_le _, fun j hj => by omega⟩ 0 ?_ ?_ (by kernel_rfl)
  ·exact ⟨by simp [SSo, Ex.exS, za], by simp [HSo, za], by kernel_rfl, Nat.zero_le _⟩
  ·rintro ⟨i, hil, hib⟩
   refine zc.run hmix (YL ih) [3, 41, 42, 43] 400 (T := .ite (decide ((↑i : Int) < s.length)) (.side ((0 : Int) ≤ i ∧ (↑i : Int) < s.length) (.side ((0 : Int) ≤ i ∧ (↑i : Int) < (↑(jb k) : Int)) (.ex (fun (x : Ex) => eqL [AV.agg [AV.int .u8 (Ex.kind (List.getD s (Int.toNat (↑i : Int)) Ex.nil)), AV.str (Ex.rat (List.getD s (Int.toNat (↑i : Int)) Ex.nil)), AV.str (Ex.name (List.getD s (Int.toNat (↑i : Int)) Ex.nil)), AV.int .i64 (Ex.date (List.getD s (Int.toNat (↑i : Int)) Ex.nil)), AV.sl (List.length (Ex.sub (List.getD s (Int.toNat (↑i : Int)) Ex.nil))) 5 (Ex.deep (List.getD s (Int.toNat (↑i : Int)) Ex.nil))]] [AV.agg [AV.int .u8 x.kind, AV.str x.rat, AV.str x.name, AV.int .i64 x.date, AV.sl x.sub.length 5 (Ex.exG x.sub)]] ∧ Ex.size x < n ∧ Ex.size x < 1152921504606846976 ∧ Ex.zx x < 1099511627776) fun n => .all (fun (r : Int) => r = Ex.zt n) fun n => .ite (!decide (n = qk k (Int.toNat (↑i : Int)))) (.leaf (.ret [.int .u8 0] [.dead, .box [.sl (jb k) 1 fun (j x : Nat) => .int .u8 (qk k j), .int .u8 (qG k)], .box [.int .u8 (Ex.kind (List.getD s (Int.toNat (↑i : Int)) Ex.nil)), .str (Ex.rat (List.getD s (Int.toNat (↑i : Int)) Ex.nil)), .str (Ex.name (List.getD s (Int.toNat (↑i : Int)) Ex.nil)), .int .i64 (Ex.date (List.getD s (Int.toNat (↑i : Int)) Ex.nil)), .sl (List.length (Ex.sub (List.getD s (Int.toNat (↑i : Int)) Ex.nil))) 5 (Ex.deep (List.getD s (Int.toNat (↑i : Int)) Ex.nil))]])) (.side (inR .i64 ((↑i : Int) + (1 : Int))) (.leaf (.back 0 [(3, .ptr 1 0), (41, .sl s.length 5 (Ex.exG s)), (42, .int .i64 s.length), (43, .int .i64 ((↑i : Int) + (1 : Int)))] [.dead, .box [.sl (jb k) 1 fun (j x : Nat) => .int .u8 (qk k j), .int .u8 (qG k)], .box [.int .u8 (Ex.kind (List.getD s (Int.toNat (↑i : Int)) Ex.nil)), .str (Ex.rat (List.getD s (Int.toNat (↑i : Int)) Ex.nil)), .str (Ex.name (List.getD s (Int.toNat (↑i : Int)) Ex.nil)), .int .i64 (Ex.date (List.getD s (Int.toNat (↑i : Int)) Ex.nil)), .sl (List.length (Ex.sub (List.getD s (Int.toNat (↑i : Int)) Ex.nil))) 5 (Ex.deep (List.getD s (Int.toNat (↑i : Int)) Ex.nil))]])))))) (.leaf (.ret [.int .u8 (qG k)] [.dead, .box [.sl (jb k) 1 fun (j x : Nat) => .int .u8 (qk k j), .int .u8 (qG k)]]))) (by kernel_rfl) ?_
   simp only [Tree.holds, zd, inR, lo, hi, Int.toNat_natCast]
   refine ⟨fun hlt => ?_, fun hge => ?_⟩
   ·have hlt : i < s.length := by have := of_decide_eq_true hlt; omega
    have hg := Ex.zH hlt
    have hg2 := Ex.uW hlt
    have hb0 : Ex.zN s < 2 ^ 40 := by simpa using hxb
    refine ⟨by omega, fun _ => ⟨by omega, fun _ => ⟨s.getD i Ex.nil, ⟨xc rfl rfl rfl rfl rfl (Ex.qU _), by omega, by omega, by omega⟩, ⟨_, rfl⟩, ?_⟩⟩⟩
    intro e he
    refine ⟨fun h => ?_, fun h => ⟨by omega, fun _ => ?_⟩⟩
    ·have hne : ¬ Ex.qh s = qf k := by
      intro h2
      have := (Ex.xl.1 h2).2 i hlt
      rw [← he] at this
      have h3 : ¬ e = qk k i := by simpa using h
      exact h3 this
     rw [if_neg hne] at hq
     exact RetR.scal hq rfl (by simp [resV])
    ·rw [if_pos trivial]
     have h3 : e = qk k i := by simpa using h
     refine ⟨⟨i + 1, hlt, fun j hj => ?_⟩, by show s.length - (i + 1) < s.length - i; omega, by simp [SSo, Ex.exS, za], by simp [HSo, za], by kernel_rfl, Nat.zero_le _⟩
     rcases Nat.lt_or_ge j i with h1 | h1
     ·exact hib j h1
     ·have : j = i := by omega
      rw [this, ← he, h3]
   ·have hge : i = s.length := by have := of_decide_eq_false hge; omega
    subst hge
    have : Ex.qh s = qf k := Ex.xl.2 ⟨hl, hib⟩
    rw [if_pos this] at hq
    exact RetR.scal hq rfl (by simp [resV])
 ·refine ⟨fun _ => ?_, fun h => (by cases h)⟩
  refine ⟨.mk k r m d s, ⟨⟨⟨⟨rfl, rfl⟩, rfl, rfl, ⟨rfl, rfl⟩, ⟨rfl, rfl, za _ _ _⟩, trivial⟩, trivial⟩, by show r.length < _; omega, by show m.length < _; omega⟩, ⟨_, rfl⟩, ?_⟩
  intro e he
  have e1 : wx k r m d (Ex.qh s) = e := by
   unfold wx
   rw [if_neg (by rw [hk]; decide), he, Ex.qZ]
   show _ = bif qQ k r m d s.length then 1 else 0
   cases qQ k r m d s.length <;> rfl
  rw [e1] at hq
  exact RetR.scal hq rfl (by simp [resV])
def yH : Ctr := ctrP true (fun x : Ex => [x.exA]) (fun x => x.size < 2 ^ 60 ∧ x.zx < 2 ^ 40) (fun x r => r = x.zt) (fun _ (r : Int) => (.int .u8 r, []))
theorem QI : zb Tryd.prog 32 yH := wM Ex.size Xj
end Go.Proofs.Tryd
end

/- Expressions: the reference's sorts. -/
section
set_option maxRecDepth 100000
open Go Go.Sx Go.Proofs Go.Nov
namespace Go.Proofs.Tryd
attribute [local simp] eqKV eqA eqA0 eqH eqB eqL eqL0
end Go.Proofs.Tryd
end

/- Expressions: the checks. -/
section
set_option maxRecDepth 100000
open Go Go.Sx Go.Proofs Go.Nov
namespace Go.Proofs.Tryd
attribute [local simp] eqKV eqA eqA0 eqH eqB eqL eqL0
def Uj : Ctr := ctrP true (fun x : Ex => [x.exA]) (fun x => x.size < 2 ^ 62) (fun x r => r = x.size) (fun _ (r : Nat) => (.int .i64 (r : Int), []))
def YP : Ctr := ctrP true (fun p : Ex × Nat => [p.1.exA, .int .i64 (p.2 : Int)]) (fun p => p.1.size < 2 ^ 62 ∧ p.2 < 2 ^ 40) (fun p r => r = min p.1.depth (p.2 + 1)) (fun _ (r : Nat) => (.int .i64 (r : Int), []))
def Q8 : Ctr := ctrP true (fun x : Ex => [x.exA]) (fun x => x.size < 2 ^ 40 ∧ x.zx < 2 ^ 40) (fun x r => r = x.errX) (fun _ (r : Int) => (.int .i64 r, []))
def zcy (z : Int) : Ctr := ctrP true (fun x : Ex => [x.exA]) (fun x => x.size < 2 ^ 40 ∧ x.zx < 2 ^ 40) (fun x r => r = (decide (x.errX = 0) && decide (x.zt = z))) (fun _ (r : Bool) => (.bool r, []))
theorem eqX (x : Ex) : eqL [.agg [.int .u8 x.kind, .str x.rat, .str x.name, .int .i64 x.date, .sl x.sub.length 5 (Ex.exG x.sub)]] [x.exA] := xc rfl rfl rfl rfl rfl (za _ _ _)
theorem KB {x : Ex} {n : Nat} (hn : decide (500 < (x.size : Int)) = false → (60 < n ↔ 60 < x.depth)) :
  ((bif decide (500 < (x.size : Int)) then true else decide (60 < (n : Int))) = true → x.errX = 4) ∧ ((bif decide (500 < (x.size : Int)) then true else decide (60 < (n : Int))) = false → x.errX = if x.zt = 0 then 8 else 0) := by
 by_cases h : 500 < x.size
 ·have e : decide (500 < (x.size : Int)) = true := decide_eq_true (by omega)
  rw [e]
  exact ⟨fun _ => if_pos (.inl h), fun h => by cases h⟩
 ·have e : decide (500 < (x.size : Int)) = false := decide_eq_false (by omega)
  have h2 := hn e
  rw [e]
  simp only [cond_false]
  by_cases h3 : 60 < n
  ·exact ⟨fun _ => if_pos (.inr (h2.1 h3)), fun h => by have := of_decide_eq_false h; omega⟩
  ·refine ⟨fun h => by have := of_decide_eq_true h; omega, fun _ => ?_⟩
   unfold Ex.errX
   rw [if_neg]
   rintro (h4 | h4)
   ·exact h h4
   ·exact h3 (h2.2 h4)
noncomputable def GCk : Nat → Option Ctr := fun f => if f = 29 then some (Uj) else if f = 53 then some (YP) else if f = 32 then some (yH) else none
theorem zdh : ∀ g c, GCk g = some c → zb Tryd.prog g c := okIf zbi (okIf Ug (okIf QI (zn)))
theorem Qm : zb Tryd.prog 27 Q8 := by
 refine ze (fn := Tryd.f27) (c := Tryd.f27.body.getD .skip) rfl rfl rfl fun x hx O w0 Q hq => ?_
 replace hq := hq _ rfl
 obtain ⟨h1, h2⟩ := hx
 refine zc.run hmix zdh [] 400 (T := .ex (fun (x_1 : Ex) => eqL [AV.agg [AV.int .u8 x.kind, AV.str x.rat, AV.str x.name, AV.int .i64 x.date, AV.sl x.sub.length 5 (Ex.exG x.sub)]] [AV.agg [AV.int .u8 x_1.kind, AV.str x_1.rat, AV.str x_1.name, AV.int .i64 x_1.date, AV.sl x_1.sub.length 5 (Ex.exG x_1.sub)]] ∧ Ex.size x_1 < 4611686018427387904) fun n => .all (fun (r : Nat) => r = Ex.size n) fun n => .ex (fun (x_1 : Ex × Nat) => decide ((500 : Int) < n) = false → eqL [AV.agg [AV.int .u8 x.kind, AV.str x.rat, AV.str x.name, AV.int .i64 x.date, AV.sl x.sub.length 5 (Ex.exG x.sub)], AV.int .i64 60] [AV.agg [AV.int .u8 x_1.1.kind, AV.str x_1.1.rat, AV.str x_1.1.name, AV.int .i64 x_1.1.date, AV.sl x_1.1.sub.length 5 (Ex.exG x_1.1.sub)], AV.int .i64 x_1.2] ∧ Ex.size x_1.1 < 4611686018427387904 ∧ x_1.2 < 1099511627776) fun n_1 => .all (fun (x : Nat) => decide ((500 : Int) < n) = false → x = min n_1.1.depth (n_1.2 + 1)) fun n_2 => .ite (bif decide ((500 : Int) < n) then true else decide ((60 : Int) < n_2)) (.leaf (.ret [.int .i64 4] [.box [.int .u8 x.kind, .str x.rat, .str x.name, .int .i64 x.date, .sl x.sub.length 5 (Ex.exG x.sub)]])) (.ex (fun (x_1 : Ex) => eqL [AV.agg [AV.int .u8 x.kind, AV.str x.rat, AV.str x.name, AV.int .i64 x.date, AV.sl x.sub.length 5 (Ex.exG x.sub)]] [AV.agg [AV.int .u8 x_1.kind, AV.str x_1.rat, AV.str x_1.name, AV.int .i64 x_1.date, AV.sl x_1.sub.length 5 (Ex.exG x_1.sub)]] ∧ Ex.size x_1 < 1152921504606846976 ∧ Ex.zx x_1 < 1099511627776) fun n => .all (fun (r : Int) => r = Ex.zt n) fun n => .ite (decide (n = 0)) (.leaf (.ret [.int .i64 8] [.box [.int .u8 x.kind, .str x.rat, .str x.name, .int .i64 x.date, .sl x.sub.length 5 (Ex.exG x.sub)]])) (.leaf (.ret [.int .i64 0] [.box [.int .u8 x.kind, .str x.rat, .str x.name, .int .i64 x.date, .sl x.sub.length 5 (Ex.exG x.sub)]])))) (by kernel_rfl) ?_
 simp only [Tree.holds, zd, inR, lo, hi, Int.toNat_natCast]
 refine ⟨x, ⟨xc rfl rfl rfl rfl rfl (za _ _ _), by omega⟩, ⟨_, rfl⟩, ?_⟩
 rintro _ rfl
 refine ⟨(x, 60), fun _ => ⟨⟨⟨⟨rfl, rfl⟩, rfl, rfl, ⟨rfl, rfl⟩, ⟨rfl, rfl, za _ _ _⟩, trivial⟩, ⟨rfl, rfl⟩, trivial⟩, by show x.size < _; omega, by show 60 < 1099511627776; omega⟩, ⟨_, fun _ => rfl⟩, ?_⟩
 intro c hc
 have em := KB (x := x) (n := c) fun h => by have := hc h; simp only at this; omega
 refine ⟨fun h => ?_, fun h => ⟨x, ⟨eqX x, by omega, by omega⟩, ⟨_, rfl⟩, ?_⟩⟩
 ·rw [em.1 h] at hq
  exact RetR.scal hq rfl (by simp [resV])
 ·have e := em.2 h
  rintro _ rfl
  refine ⟨fun g => ?_, fun g => ?_⟩
  ·rw [e, if_pos (of_decide_eq_true g)] at hq
   exact RetR.scal hq rfl (by simp [resV])
  ·rw [e, if_neg (of_decide_eq_false g)] at hq
   exact RetR.scal hq rfl (by simp [resV])
noncomputable def GNu : Nat → Option Ctr := fun f => if f = 27 then some (Q8) else if f = 32 then some (yH) else none
theorem zdv : ∀ g c, GNu g = some c → zb Tryd.prog g c := okIf Qm (okIf QI (zn))
theorem zei : zb Tryd.prog 10 (zcy 1) := by
 refine ze (fn := Tryd.f10) (c := Tryd.f10.body.getD .skip) rfl rfl rfl fun x hx O w0 Q hq => ?_
 replace hq := hq _ rfl
 obtain ⟨h1, h2⟩ := hx
 refine zc.run hmix zdv [] 400 (T := .ex (fun (x_1 : Ex) => eqL [AV.agg [AV.int .u8 x.kind, AV.str x.rat, AV.str x.name, AV.int .i64 x.date, AV.sl x.sub.length 5 (Ex.exG x.sub)]] [AV.agg [AV.int .u8 x_1.kind, AV.str x_1.rat, AV.str x_1.name, AV.int .i64 x_1.date, AV.sl x_1.sub.length 5 (Ex.exG x_1.sub)]] ∧ Ex.size x_1 < 1099511627776 ∧ Ex.zx x_1 < 1099511627776) fun n => .all (fun (r : Int) => r = Ex.errX n) fun n => .ex (fun (x_1 : Ex) => decide (n = 0) = true → eqL [AV.agg [AV.int .u8 x.kind, AV.str x.rat, AV.str x.name, AV.int .i64 x.date, AV.sl x.sub.length 5 (Ex.exG x.sub)]] [AV.agg [AV.int .u8 x_1.kind, AV.str x_1.rat, AV.str x_1.name, AV.int .i64 x_1.date, AV.sl x_1.sub.length 5 (Ex.exG x_1.sub)]] ∧ Ex.size x_1 < 1152921504606846976 ∧ Ex.zx x_1 < 1099511627776) fun n_1 => .all (fun (x : Int) => decide (n = 0) = true → x = Ex.zt n_1) fun n_2 => .leaf (.ret [.bool (bif decide (n = 0) then decide (n_2 = 1) else false)] [.box [.int .u8 x.kind, .str x.rat, .str x.name, .int .i64 x.date, .sl x.sub.length 5 (Ex.exG x.sub)]])) (by kernel_rfl) ?_
 simp only [Tree.holds, zd, inR, lo, hi, Int.toNat_natCast]
 refine ⟨x, ⟨eqX x, by omega, by omega⟩, ⟨_, rfl⟩, ?_⟩
 rintro _ rfl
 refine ⟨x, fun _ => ⟨eqX x, by omega, by omega⟩, ⟨_, fun _ => rfl⟩, ?_⟩
 intro c hc
 refine RetR.scal hq rfl ?_
 cases h : decide (x.errX = 0) with
 | false => rfl
 | true => rw [hc h]; rfl
end Go.Proofs.Tryd
end

/- Expressions: equality. -/
section
set_option maxRecDepth 100000
open Go Go.Sx Go.Proofs Go.Nov
namespace Go.Proofs.Tryd
attribute [local simp] eqKV eqA eqA0 eqH eqB eqL eqL0
end Go.Proofs.Tryd
end

/- Nil slices of a result, handed back as own empty ones. -/
section
namespace Go.Sx
variable [Stat]
section
variable {own own' O : Nat → Prop} {w w' : World} {σ σ' : List SE} {P : Program} {fn : Func}
def upA0 (d k : Nat) : AV → AV → Prop
 | .nils, .osl i _ off n => (d ≤ i ∧ i < d + k) ∧ off = 0 ∧ n = 0
 | a, b => a = b
def upL0 (d k : Nat) : List AV → List AV → Prop
 | [], [] => True
 | a :: l, b :: m => upA0 d k a b ∧ upL0 d k l m
 | _, _ => False
def upA1 (d k : Nat) : AV → AV → Prop
 | .agg l, .agg m => upL0 d k l m
 | a, b => upA0 d k a b
def upL1 (d k : Nat) : List AV → List AV → Prop
 | [], [] => True
 | a :: l, b :: m => upA1 d k a b ∧ upL1 d k l m
 | _, _ => False
def upA2 (d k : Nat) : AV → AV → Prop
 | .tup l, .tup m => upL1 d k l m
 | a, b => upA1 d k a b
def j1 (k : Nat) : List SE := List.replicate k ⟨none, 0⟩
theorem y2.mono {g : Nat} {vals : Array Value} {R R' : Value → World → Prop} (hR : ∀ v w', R v w' → R' v w') (h : y2 P g vals w R) : y2 P g vals w R' := by
 rcases h with ⟨h1, h2⟩ | ⟨v, w', h1, h2⟩
 ·exact .inl ⟨h1, h2.mono fun e w' ⟨v, he, hv⟩ => ⟨v, he, hR v w' hv⟩⟩
 ·exact .inr ⟨v, w', h1, hR v w' h2⟩
theorem qE {k i : Nat} {e : SE} (h : (σ ++ j1 k)[i]? = some e) : (i < σ.length ∧ σ[i]? = some e) ∨ (σ.length ≤ i ∧ e = ⟨none, 0⟩) := by
 rw [List.getElem?_append] at h
 split at h
 ·rename_i hi; exact .inl ⟨hi, h⟩
 ·rename_i hi
  right
  refine ⟨by omega, ?_⟩
  simp only [j1, List.getElem?_replicate] at h
  split at h
  ·cases h; rfl
  ·cases h
theorem uC {k b : Nat} (h : Mine (σ ++ j1 k) b) : Mine σ b := by
 obtain ⟨e, he, ad, h1, h2⟩ := h
 rcases List.mem_append.1 he with he | he
 ·exact ⟨e, he, ad, h1, h2⟩
 ·have := List.eq_of_mem_replicate he
  subst this
  cases h1
theorem yf {k b : Nat} (h : Own O (σ ++ j1 k) b) : Own O σ b := by
 rcases h with h | h
 ·exact .inl h
 ·exact .inr (uC h)
theorem wL (K : List Nat) (w : World) (σ : List SE) (k : Nat) : Hold K w σ w (σ ++ j1 k) := fun i e he _ => by
 have hi := (List.getElem?_eq_some_iff.1 he).1
 exact ⟨by rw [List.getElem?_append_left hi]; exact he, fun ad _ cs el h => ⟨cs, el, h, rfl⟩⟩
theorem Qn {k : Nat} (hx : Ext own w own' w) {a b : AV} {v : Value} (hu : upA0 σ.length k a b) (ha : Rep own w a σ v) : Rep own' w b (σ ++ j1 k) v := by
 unfold upA0 at hu
 split at hu
 ·obtain ⟨⟨h1, h2⟩, rfl, rfl⟩ := hu
  rename_i i sz _ _
  simp only [Rep] at ha ⊢
  refine ⟨⟨none, 0⟩, ?_, by simp, none, 0, ha, Nat.le_refl _, .inl rfl⟩
  rw [List.getElem?_append_right h1, j1, List.getElem?_replicate, if_pos (by omega)]
 ·subst hu
  exact q6 (K := []) hx (wL [] w σ k) _ _ (jG _) ha
theorem ub {k : Nat} (hx : Ext own w own' w) : ∀ {l m : List AV} {vs : List Value}, upL0 σ.length k l m → RepL own w l σ vs → RepL own' w m (σ ++ j1 k) vs
 | [], [], vs, _, h => by simpa [RepL] using h
 | a :: l, b :: m, vs, hl, h => by
  simp only [RepL] at h ⊢
  obtain ⟨v, r, hv, h1, h2⟩ := h
  exact ⟨v, r, hv, Qn hx hl.1 h1, ub hx hl.2 h2⟩
 | [], _ :: _, _, hl, _ => hl.elim
 | _ :: _, [], _, hl, _ => hl.elim
theorem Z2 {k : Nat} (hx : Ext own w own' w) {a b : AV} {v : Value} (hu : upA1 σ.length k a b) (ha : Rep own w a σ v) : Rep own' w b (σ ++ j1 k) v := by
 unfold upA1 at hu
 split at hu
 ·simp only [Rep] at ha ⊢
  obtain ⟨vs, hv, hr⟩ := ha
  exact ⟨vs, hv, ub hx hu hr⟩
 ·exact Qn hx hu ha
theorem kO {k : Nat} (hx : Ext own w own' w) : ∀ {l m : List AV} {vs : List Value}, upL1 σ.length k l m → RepL own w l σ vs → RepL own' w m (σ ++ j1 k) vs
 | [], [], vs, _, h => by simpa [RepL] using h
 | a :: l, b :: m, vs, hl, h => by
  simp only [RepL] at h ⊢
  obtain ⟨v, r, hv, h1, h2⟩ := h
  exact ⟨v, r, hv, Z2 hx hl.1 h1, kO hx hl.2 h2⟩
 | [], _ :: _, _, hl, _ => hl.elim
 | _ :: _, [], _, hl, _ => hl.elim
theorem ZM {k : Nat} (hx : Ext own w own' w) {a b : AV} {v : Value} (hu : upA2 σ.length k a b) (ha : Rep own w a σ v) : Rep own' w b (σ ++ j1 k) v := by
 unfold upA2 at hu
 split at hu
 ·simp only [Rep] at ha ⊢
  obtain ⟨vs, hv, hr⟩ := ha
  exact ⟨vs, hv, kO hx hu hr⟩
 ·exact Z2 hx hu ha
def vq (szs : List (Nat × (Nat → Nat → AV))) : Heap := szs.map fun s => .arr 0 s.1 s.2
theorem zc8 (hx : Ext own w own' w) {hs : Heap} (hh : HRep own w σ hs) (szs : List (Nat × (Nat → Nat → AV))) : HRep own' w (σ ++ j1 szs.length) (hs ++ vq szs) := by
 have hl := hh.len
 refine ⟨by simp [j1, vq, hl], fun i j e f a b he hf ha hb hij => ?_, fun i e a he ha => ?_, fun i e b he hb => ?_⟩
 ·rcases qE he with ⟨_, he⟩ | ⟨_, rfl⟩
  ·rcases qE hf with ⟨_, hf⟩ | ⟨_, rfl⟩
   ·exact hh.inj i j e f a b he hf ha hb hij
   ·cases hb
  ·cases ha
 ·rcases qE he with ⟨_, he⟩ | ⟨_, rfl⟩
  ·exact hh.lt i e a he ha
  ·cases ha
 ·rcases qE he with ⟨hi, he⟩ | ⟨hi, rfl⟩
  ·rw [List.getElem?_append_left (by omega)] at hb
   have := qC (K := []) hx (wL [] w σ szs.length) (hh.blk i e b he hb) (fun _ _ => rfl)
   rwa [qN] at this
  ·rw [List.getElem?_append_right (by omega)] at hb
   simp only [vq, List.getElem?_map] at hb
   cases hz : szs[i - hs.length]? with
   | none => simp [hz] at hb
   | some s =>
    simp only [hz, Option.map_some, Option.some.injEq] at hb
    subst hb
    exact ⟨rfl, .inl rfl⟩
def upQ (Q : AV × Heap → Prop) (p : AV × Heap) : Prop := Q p ∨ ∃ (r : AV) (szs : List (Nat × (Nat → Nat → AV))), upA2 p.2.length szs.length p.1 r ∧ Q (r, p.2 ++ vq szs)
theorem qx.up {g : Nat} {c : Ctr} {args : List AV} {hc : Heap} {Q : AV × Heap → Prop} (h : qx P g c args hc (upQ Q)) : qx P g c args hc Q := by
 intro O w σ vals hg hh hr
 refine y2.mono ?_ (h O w σ vals hg hh hr)
 rintro v w' ⟨r, hs, σ', hq, h1, h2, h3, h4, h5, h6⟩
 rcases hq with hq | ⟨r', szs, hu, hq⟩
 ·exact ⟨r, hs, σ', hq, h1, h2, h3, h4, h5, h6⟩
 ·have hx : Ext (fun b => Own O σ' b ∨ (c.fresh = true ∧ b < w.heap.size)) w' (fun b => Own O (σ' ++ j1 szs.length) b ∨ (c.fresh = true ∧ b < w.heap.size)) w' :=
   ⟨rfl, rfl, rfl, Nat.le_refl _, fun _ _ _ => rfl, fun b hb => .inl (hb.imp yf id)⟩
  have hl : hs.length = σ'.length := h2.len.symm
  refine ⟨r', hs ++ vq szs, σ' ++ j1 szs.length, hq, ZM hx (by rw [← hl]; exact hu) h1, zc8 hx h2 szs, ⟨h3.old, fun i e ad he had => ?_, h3.stat.own fun b hb => yf hb⟩, by simp; omega, h5.W3 (wL [] w' σ' _), ?_⟩
  ·rcases qE he with ⟨_, he⟩ | ⟨_, rfl⟩
   ·exact h3.dis i e ad he had
   ·cases had
  ·exact ⟨h6.os, h6.tape, h6.output, h6.size, h6.keep, fun b hb => h6.grow b (uC hb)⟩
theorem yR {X R : Type} {fresh : Bool} {inp : X → List AV} {pre : X → Prop} {post : X → R → Prop} {out : X → R → AV × Heap} {g : Nat} {c : Code} (hf : P.funcs[g]? = some fn) (hb : fn.body = some c) (hn : (fn.name == "runtime.NumGoroutine") = false)
  (H : ∀ x, pre x → ∀ (O : Nat → Prop) (w0 : World) (Q : AV × Heap → Prop), (∀ r, post x r → Q (out x r)) →
   zc P fn O 0 w0 [] (fun _ _ _ => False) (RetR (ctrP fresh inp pre post out) 0 (upQ Q)) [.code c] (entry fn (inp x))) : zb P g (ctrP fresh inp pre post out) := by
 intro args hc Q hq _
 simp only [ctrP] at hq
 split at hq
 ·obtain ⟨x, ⟨h1, h4⟩, h5, h6⟩ := hq
  refine qx.le h1 (qx.up (fn_k hf hb hn (fun h => rfl) fun O w0 σ0 hl => ?_))
  have h0 : σ0 = [] := List.length_eq_zero_iff.1 (by simpa using hl)
  subst h0
  exact H x h4 O w0 Q h6
 ·exact hq.elim
def upKV (d k : Nat) : KV → KV → Prop
 | [], [] => True
 | (i, a) :: l, (j, b) :: m => i = j ∧ upA2 d k a b ∧ upKV d k l m
 | _, _ => False
def upB (d k : Nat) : Blk → Blk → Prop
 | .box l, .box m => upL1 d k l m
 | a, b => a = b
def upH (d k : Nat) : Heap → Heap → Prop
 | [], [] => True
 | b :: l, c :: m => upB d k b c ∧ upH d k l m
 | _, _ => False
theorem ZA {d k : Nat} : ∀ {l m : KV} (t : Nat), upKV d k l m → upA2 d k (look l t) (look m t)
 | [], [], t, _ => by simp [look, upA2, upA1, upA0]
 | (i, a) :: l, (j, b) :: m, t, h => by
  obtain ⟨rfl, h1, h2⟩ := h
  simp only [look]
  split
  ·exact h1
  ·exact ZA t h2
 | [], _ :: _, _, h => h.elim
 | _ :: _, [], _, h => h.elim
theorem VF {d k : Nat} : ∀ {l m : Heap}, upH d k l m → l.length = m.length
 | [], [], _ => rfl
 | _ :: l, _ :: m, h => by simp [VF h.2]
 | [], _ :: _, h => h.elim
 | _ :: _, [], h => h.elim
theorem Kt {d k : Nat} : ∀ {l m : Heap} {i : Nat} {b' : Blk}, upH d k l m → m[i]? = some b' → ∃ b, l[i]? = some b ∧ upB d k b b'
 | b :: l, c :: m, 0, b', h, h1 => by simp at h1; subst h1; exact ⟨b, rfl, h.1⟩
 | b :: l, c :: m, i + 1, b', h, h1 => by simpa using Kt h.2 (by simpa using h1)
 | [], [], _, _, _, h1 => by simp at h1
 | [], _ :: _, _, _, h, _ => h.elim
 | _ :: _, [], _, _, h, _ => h.elim
theorem Xa {k : Nat} (hx : Ext own w own' w) {e : SE} {b b' : Blk} (hu : upB σ.length k b b') (hb : BRep own w σ e b) : BRep own' w (σ ++ j1 k) e b' := by
 unfold upB at hu
 split at hu
 ·simp only [BRep] at hb ⊢
  obtain ⟨ad, vs, el, h1, h2, h3, h4⟩ := hb
  exact ⟨ad, vs, el, h1, h2, h3, kO hx hu h4⟩
 ·subst hu
  have := qC (K := []) hx (wL [] w σ k) hb (fun _ _ => rfl)
  rwa [qN] at this
variable {pin : Nat} {w0 : World} {σ0 : List SE} {a : Act}
theorem up_mod {kv kv2 : KV} {h h2 : Heap} {n : Nat} (hm : Mod O pin w0 σ0 w σ (mk n kv h) a) {szs : List (Nat × (Nat → Nat → AV))} (hkv : upKV h.length szs.length kv kv2) (hh2 : upH h.length szs.length h h2) (hno : (pk n kv).all qL = true) (hno2 : (pk n kv2).all qL = true) : Mod O pin w0 σ0 w (σ ++ j1 szs.length) (mk n kv2 (h2 ++ vq szs)) a := by
 have hx : Ext (Own O σ) w (Own O (σ ++ j1 szs.length)) w := ⟨rfl, rfl, rfl, Nat.le_refl _, fun _ _ _ => rfl, fun b hb => .inl (yf hb)⟩
 have hl : h.length = σ.length := hm.hp.len.symm
 rw [hl] at hkv hh2
 have hl2 := VF hh2
 refine ⟨⟨hm.good.old, fun i e ad he had => ?_, hm.good.stat.ext hx⟩, ?_, by simp [hm.size, mk, pk], fun u => ?_, hm.df.ext hx, hm.since.trans ⟨hx, fun _ _ _ => rfl, wR.of (wL [] w σ _) (by simp)⟩, hm.lim⟩
 ·rcases qE he with ⟨_, he⟩ | ⟨_, rfl⟩
  ·exact hm.good.dis i e ad he had
  ·cases had
 ·have hh := hm.hp
  refine ⟨by simp [mk, j1, vq, ← hl2, hl], fun i j e f x y he hf ha hb hij => ?_, fun i e x he ha => ?_, fun i e b he hb => ?_⟩
  ·rcases qE he with ⟨_, he⟩ | ⟨_, rfl⟩
   ·rcases qE hf with ⟨_, hf⟩ | ⟨_, rfl⟩
    ·exact hh.inj i j e f x y he hf ha hb hij
    ·cases hb
   ·cases ha
  ·rcases qE he with ⟨_, he⟩ | ⟨_, rfl⟩
   ·exact hh.lt i e x he ha
   ·cases ha
  ·simp only [mk] at hb
   rcases qE he with ⟨hi, he⟩ | ⟨hi, rfl⟩
   ·rw [List.getElem?_append_left (by omega)] at hb
    obtain ⟨b0, h1, h3⟩ := Kt hh2 hb
    exact Xa hx h3 (hh.blk i e b0 he h1)
   ·rw [List.getElem?_append_right (by omega)] at hb
    simp only [vq, List.getElem?_map] at hb
    cases hz : szs[i - h2.length]? with
    | none => simp [hz] at hb
    | some s =>
     simp only [hz, Option.map_some, Option.some.injEq] at hb
     subst hb
     exact ⟨rfl, .inl rfl⟩
 ·have hu := hm.tm u
  have key : ∀ (kv : KV) (h : Heap), (pk n kv).all qL = true → qL ((mk n kv h).tmps.getD u .undef) = true := by
   intro kv h hno
   by_cases hlt : u < (mk n kv h).tmps.length
   ·simp only [List.getD, List.getElem?_eq_getElem hlt, Option.getD_some]
    exact List.all_eq_true.1 hno _ (List.getElem_mem hlt)
   ·simp only [List.getD]
    rw [List.getElem?_eq_none (by omega)]; rfl
  have n1 := key kv h hno
  have n2 := key kv2 (h2 ++ vq szs) hno2
  have hr : Rep (Own O σ) w ((mk n kv h).tmps.getD u .undef) σ (a.tmps.getD u undef) := by
   generalize (mk n kv h).tmps.getD u .undef = x at hu n1
   cases x with
   | opt _ _ _ => simp [qL] at n1
   | _ => simpa only [TRep] using hu
  have hup : upA2 σ.length szs.length ((mk n kv h).tmps.getD u .undef) ((mk n kv2 (h2 ++ vq szs)).tmps.getD u .undef) := by
   by_cases hlt : u < n
   ·simp only [mk]
    rw [wP hlt, wP hlt]
    exact ZA u hkv
   ·simp [mk, pk, List.getD, hlt, upA2, upA1, upA0]
  have := ZM hx hup hr
  generalize (mk n kv2 (h2 ++ vq szs)).tmps.getD u .undef = y at this n2
  cases y with
  | opt _ _ _ => simp [qL] at n2
  | _ => simpa only [TRep] using this
theorem zc.up {M : Option Nat} {Hs : Nat → KV → Heap → Prop} {R : List AV → Heap → Prop} {k : List Item} {kv : KV} {h : Heap} (szs : List (Nat × (Nat → Nat → AV))) (kv2 : KV) (h2 : Heap) (hkv : upKV h.length szs.length kv kv2) (hh2 : upH h.length szs.length h h2) (hno : (pk fn.ntmps kv).all qL = true) (hno2 : (pk fn.ntmps kv2).all qL = true)
  (H : j0 M P fn O pin w0 σ0 Hs R k (mk fn.ntmps kv2 (h2 ++ vq szs))) : j0 M P fn O pin w0 σ0 Hs R k (mk fn.ntmps kv h) :=
 fun w σ a hm => H w _ a (up_mod hm hkv hh2 hno hno2)
theorem RetR.outs {ctr : Ctr} {Q : AV × Heap → Prop} {rs : List AV} {h : Heap} {r : AV} {hs : Heap} (L : List Nat) (hnd : wG L = true) (hlt : (L.all fun i => decide (i < h.length)) = true) (hq : Q (r, hs)) (hn : ctr.fresh = true → new2 h L (resV rs) ∧ ∀ i ∈ L, newB (h.getD i .dead))
  (he : eqA2 (exp2 h L (resV rs)) r) (hb : eqH (expH h L) hs) (hl : hs.length = L.length) : RetR ctr 0 Q rs h :=
 ⟨L, hnd, fun i hi => by have := List.all_eq_true.1 hlt i hi; simpa using this, by simp, hn, r, hs, qi he, hb, hl, hq⟩
theorem RetR.keep {ctr : Ctr} {m : Nat} {Q : AV × Heap → Prop} {rs : List AV} {h : Heap} {r : AV} {hs : Heap} (L : List Nat) (hnd : wG L = true) (hlt : (L.all fun i => decide (i < h.length)) = true) (hj : ∀ j, j < m → L[j]? = some j) (hf : ctr.fresh = false) (hq : Q (r, hs))
  (he : eqA2 (exp2 h L (resV rs)) r) (hb : eqH (expH h L) hs) (hl : hs.length = L.length) : RetR ctr m Q rs h :=
 ⟨L, hnd, fun i hi => by have := List.all_eq_true.1 hlt i hi; simpa using this, hj, (fun hh => absurd hh (by rw [hf]; decide)), r, hs, qi he, hb, hl, hq⟩
end
end Go.Sx
end

/- Expressions: copies. -/
section
set_option maxRecDepth 100000
open Go Go.Sx Go.Proofs Go.Nov
namespace Go.Proofs.Tryd
attribute [local simp] eqKV eqA eqA0 eqH eqB eqL eqL0
def exD (x : Ex) : AV := .agg [.int .u8 x.kind, .str x.rat, .str x.name, .int .i64 x.date, .sl x.sub.length 5 x.deep]
theorem Yf {s : List Ex} {i : Nat} : eqG (i + 1) 5 (appG i (Ex.exG s) (zg (zj 5 [.int .u8 (s.getD i Ex.nil).kind, .str (s.getD i Ex.nil).rat, .str (s.getD i Ex.nil).name, .int .i64 (s.getD i Ex.nil).date, .sl (s.getD i Ex.nil).sub.length 5 (s.getD i Ex.nil).deep]) 0)) (Ex.exG s) := by
 intro j o hj ho
 simp only [appG, zg, zj]
 by_cases h : j < i
 ·rw [if_pos h]
 ·have : j = i := by omega
  subst this
  rw [if_neg h]
  have e : j - j = 0 := by omega
  match o, ho with
  | 0, _ => simp [e, Ex.exG, Ex.cell]
  | 1, _ => simp [e, Ex.exG, Ex.cell]
  | 2, _ => simp [e, Ex.exG, Ex.cell]
  | 3, _ => simp [e, Ex.exG, Ex.cell]
  | 4, _ => simp [e, Ex.exG, Ex.cell]
theorem U3 {C : Ctr} {Q : AV × Heap → Prop} {x : Ex} {h : Heap} {b : Nat} (hC : C.fresh = false) (hb : h[b]? = some (.arr x.sub.length 5 (Ex.exG x.sub))) (hq : Q (exD x, [])) : RetR C 0 Q [.agg [.int .u8 x.kind, .str x.rat, .str x.name, .int .i64 x.date, .osl b 5 0 x.sub.length]] h := by
 refine RetR.out0 hq (fun h => by rw [hC] at h; cases h) ?_
 simp only [resV, exp2, exp1, List.map_cons, List.map_nil, exp0, ren0, z5, frz1, jQ, hb, eqA2, eqA, eqL0, eqA0, exD, true_and, and_true]
 simp only [if_true]
 refine ⟨trivial, trivial, fun j o hj ho => ?_⟩
 have := Ex.qU x j o hj ho
 simpa [zg] using this.symm
end Go.Proofs.Tryd
end

/- Truth values joined. -/
section
namespace Go.Nov
theorem orf {a b : Bool} : (bif a then true else b) = false ↔ a = false ∧ b = false := by cases a <;> simp
theorem finB {P R : Prop} {t : Bool} (h : t = false) (r : R) : (t = true → P) ∧ (t = false → R) := ⟨fun g => absurd (h.symm.trans g) (by decide), fun _ => r⟩
theorem andt {a b : Bool} : (bif a then b else false) = true ↔ a = true ∧ b = true := by cases a <;> simp
end Go.Nov
end

/- Integers as they are written: sums, products, comparisons. -/
section
namespace Go.Nov
def sumS (m : Bool) (x : Nat) (n : Bool) (y : Nat) : Bool × Nat := if m = n then (m, x + y) else if y ≤ x then (m, x - y) else (n, y - x)
def addI (s t : List UInt8) : List UInt8 × Int := if zp s t = 0 then wr (sumS (negI s) (numI s) (negI t) (numI t)).1 (sumS (negI s) (numI s) (negI t) (numI t)).2 else ([], zp s t)
def subI (s t : List UInt8) : List UInt8 × Int := if zp s t = 0 then wr (sumS (negI s) (numI s) (!negI t) (numI t)).1 (sumS (negI s) (numI s) (!negI t) (numI t)).2 else ([], zp s t)
def mulI (s t : List UInt8) : List UInt8 × Int := if zp s t = 0 then wr (negI s != negI t) (numI s * numI t) else ([], zp s t)
def cmpZ (m : Bool) (x : Nat) (n : Bool) (y : Nat) : Int := if m = true ∧ n = false then -1 else if n = true ∧ m = false then 1 else if m = true then cmpN y x else cmpN x y
def ZL (s t : List UInt8) : Int × Int := if zp s t = 0 then (cmpZ (negI s) (numI s) (negI t) (numI t), 0) else (0, zp s t)
theorem yF {d : Nat} (h : d < 10) : (byt d).toNat = 48 + d := by
 unfold byt
 rw [UInt8.toNat_ofNat']
 omega
theorem xh {x : Nat} (h : x ≠ 0) : txt x = ((dec x).map byt).reverse := if_neg h
theorem yK {x : Nat} (h : x ≠ 0) : (txt x).length = (dec x).length := by rw [xh h]; simp
theorem Ky {x : Nat} (h : x ≠ 0) : allD (txt x) := by
 intro c hc
 rw [xh h] at hc
 simp only [List.mem_reverse, List.mem_map] at hc
 obtain ⟨d, hd, rfl⟩ := hc
 have : d < 10 := Ten.zf x d hd
 rw [yF this]
 omega
theorem zdk {x : Nat} (h : x ≠ 0) : dg (txt x) = dec x := by
 rw [xh h, dg, List.map_reverse, List.reverse_reverse, List.map_map]
 conv => rhs; rw [← List.map_id (dec x)]
 refine List.map_congr_left fun d hd => ?_
 have : d < 10 := Ten.zf x d hd
 simp only [Function.comp, yF this, id]
 omega
theorem za4 {x : Nat} (h : x ≠ 0) : numD (txt x) = x := by
 rw [← WJ, zdk h]
 exact Ten.zh x
theorem Z5 {x : Nat} (h : x ≠ 0) : (txt x).getD 0 0 ≠ 48 ∧ (txt x).getD 0 0 ≠ 45 := by
 have hl := QE h
 have ht := Ki hl
 have hlt := dec_lt x ((dec x).length - 1)
 have e : (txt x).getD 0 0 = byt ((dec x).getD ((dec x).length - 1) 0) := by
  rw [xh h]
  simp only [List.getD_eq_getElem?_getD]
  rw [List.getElem?_reverse (by simpa using hl)]
  simp [List.getElem?_eq_getElem (show (dec x).length - 1 < (dec x).length by omega)]
 rw [e]
 have hb := yF hlt
 constructor
 ·intro h2
  rw [h2] at hb
  have : (48 : UInt8).toNat = 48 := rfl
  omega
 ·intro h2
  rw [h2] at hb
  have : (45 : UInt8).toNat = 45 := rfl
  omega
theorem Y5 {x : Nat} (h : x ≠ 0) : txt x ≠ [] := by
 intro h2
 have := yK h
 rw [h2] at this
 have := QE h
 simp at *; omega
theorem X6 {x : Nat} (h : x ≠ 0) (neg : Bool) : parse (sgn neg (txt x)) = (neg, txt x) := by
 cases neg with
 | true => rfl
 | false =>
  simp only [sgn, Bool.false_eq_true, if_false]
  have h1 := (Z5 h).2
  cases ht : txt x with
  | nil => exact absurd ht (Y5 h)
  | cons c b =>
   rw [ht] at h1
   have : c ≠ 45 := h1
   simp [parse, this]
theorem XI {x : Nat} (h : x ≠ 0) (neg : Bool) : j4 neg (txt x) = true := by
 have h1 := (Z5 h).1
 have h2 : txt x ≠ [48] := by
  intro h2
  rw [h2] at h1
  exact h1 rfl
 have h3 := Y5 h
 have h4 : (txt x).all isD = true := Kk.2 (Ky h)
 simp only [List.getD_eq_getElem?_getD] at h1
 simp [j4, h3, h2, h1, h4]
theorem yw {neg : Bool} {x : Nat} (h : (wr neg x).2 = 0) : errI (wr neg x).1 = 0 ∧ numI (wr neg x).1 = x ∧ negI (wr neg x).1 = (neg && decide (x ≠ 0)) := by
 unfold wr at h ⊢
 by_cases h0 : x = 0
 ·subst h0
  simp only [if_true]
  refine ⟨rfl, rfl, ?_⟩
  simp [negI, parse]
 ·rw [if_neg h0] at h ⊢
  by_cases h1 : 1000 < (dec x).length
  ·rw [if_pos h1] at h; cases h
  ·rw [if_neg h1]
   simp only [errI, numI, negI, X6 h0, XI h0, if_true]
   rw [yK h0, if_neg h1]
   exact ⟨rfl, za4 h0, by simp [h0]⟩
theorem Vo (neg : Bool) (x : Nat) : (wr neg x).2 = 0 ∨ wr neg x = ([], 14) := by
 unfold wr
 split
 ·exact .inl rfl
 ·split
  ·exact .inr rfl
  ·exact .inl rfl
theorem zbl (neg : Bool) (b : List UInt8) : (sgn neg b).length ≤ b.length + 1 := by
 unfold sgn; split <;> simp
theorem v7 (neg : Bool) (x : Nat) : (wr neg x).1.length ≤ 1001 := by
 unfold wr
 split
 ·simp
 ·rename_i h0
  split
  ·simp
  ·rename_i h1
   have := zbl neg (txt x)
   rw [yK h0] at this
   simp only
   omega
theorem Uy (s t : List UInt8) : (addI s t).1.length ≤ 1001 := by
 unfold addI
 split
 ·exact v7 _ _
 ·simp
theorem Uo (s t : List UInt8) : (subI s t).1.length ≤ 1001 := by
 unfold subI
 split
 ·exact v7 _ _
 ·simp
theorem Uw (s t : List UInt8) : (mulI s t).1.length ≤ 1001 := by
 unfold mulI
 split
 ·exact v7 _ _
 ·simp
theorem Ks (b : Bool) (x : Nat) : wr (b && decide (0 < x)) x = wr b x := by
 unfold wr
 by_cases h : x = 0
 ·rw [if_pos h, if_pos h]
 ·rw [if_neg h, if_neg h]
  have : decide (0 < x) = true := decide_eq_true (Nat.pos_of_ne_zero h)
  rw [this, Bool.and_true]
theorem ZS (m : Bool) (x : Nat) (n : Bool) : sumS m x n 0 = (m, x) := by
 unfold sumS
 split
 ·rfl
 ·simp
theorem Xz (m : Bool) (x : Nat) (n : Bool) (y : Nat) : sumS m x (n && decide (0 < y)) y = sumS m x n y := by
 by_cases h : y = 0
 ·subst h; rw [ZS, ZS]
 ·have : decide (0 < y) = true := decide_eq_true (Nat.pos_of_ne_zero h)
  rw [this, Bool.and_true]
theorem Kj (m : Bool) (x : Nat) (n : Bool) (y : Nat) : (sumS m x n y).2 ≤ x + y := by
 unfold sumS
 split
 ·exact Nat.le_refl _
 ·split
  ·simp only; omega
  ·simp only; omega
end Go.Nov
end

/- Rationals as they are written. -/
section
namespace Go.Nov
def VR (neg : Bool) (x y : Nat) : List UInt8 :=
 if y / Nat.gcd x y = 1 then (wr neg (x / Nat.gcd x y)).1 else (wr neg (x / Nat.gcd x y)).1 ++ [47] ++ (wr false (y / Nat.gcd x y)).1
def j7 (n d : List UInt8) : List UInt8 × Int := if zp n d ≠ 0 then ([], zp n d) else if numI d = 0 then ([], 16) else (VR (negI n != negI d) (numI n) (numI d), 0)
def jw (a b : List UInt8) : Int := if errR a = 0 then errR b else errR a
def numR (a : List UInt8) : List UInt8 := (cutR a).1
def denR (a : List UInt8) : List UInt8 := if (cutR a).2.2 then (cutR a).2.1 else [49]
def frac (z w : List UInt8 × Int) : List UInt8 × Int := if z.2 ≠ 0 ∨ w.2 ≠ 0 then ([], 14) else j7 z.1 w.1
def zP (a b : List UInt8) : Int := if jw a b ≠ 0 then jw a b else if (mulI (numR a) (denR b)).2 ≠ 0 ∨ (mulI (numR b) (denR a)).2 ≠ 0 then 14 else 0
def addR (a b : List UInt8) : List UInt8 × Int := if zP a b ≠ 0 then ([], zP a b) else frac (addI (mulI (numR a) (denR b)).1 (mulI (numR b) (denR a)).1) (mulI (denR a) (denR b))
def subR (a b : List UInt8) : List UInt8 × Int := if zP a b ≠ 0 then ([], zP a b) else frac (subI (mulI (numR a) (denR b)).1 (mulI (numR b) (denR a)).1) (mulI (denR a) (denR b))
def mulR (a b : List UInt8) : List UInt8 × Int := if jw a b ≠ 0 then ([], jw a b) else frac (mulI (numR a) (numR b)) (mulI (denR a) (denR b))
def cmpR (a b : List UInt8) : Int × Int := if zP a b ≠ 0 then (0, zP a b) else ZL (mulI (numR a) (denR b)).1 (mulI (numR b) (denR a)).1
end Go.Nov
namespace Go.Nov
def dmQ (s t : List UInt8) : Nat := if negI s = true ∧ 0 < numI s % numI t then numI s / numI t + 1 else numI s / numI t
def dmM (s t : List UInt8) : Nat := if negI s = true ∧ 0 < numI s % numI t then numI t - numI s % numI t else numI s % numI t
def dmI (s t : List UInt8) : List UInt8 × List UInt8 × Int :=
 if zp s t ≠ 0 then ([], [], zp s t) else if numI t = 0 then ([], [], 16) else ((wr (negI s != negI t) (dmQ s t)).1, (wr false (dmM s t)).1, 0)
theorem UZ {s : List UInt8} (h : errI s = 0) : ∃ k, k ≤ 1000 ∧ numI s < 10 ^ k := by
 obtain ⟨_, h1, _, h2⟩ := u7 h
 exact ⟨_, h2, x8 h1⟩
def room (x : Nat) : Prop := (dec x).length ≤ 1000
theorem room_le {x y : Nat} (h : x ≤ y) (hy : room y) : room x := by
 rcases Nat.lt_or_ge (dec y).length (dec x).length with h1 | h1
 ·have := Ten.zM h1
  omega
 ·exact Nat.le_trans h1 hy
theorem jf {s : List UInt8} (h : errI s = 0) : room (numI s) := by
 obtain ⟨k, h1, h2⟩ := UZ h
 exact Nat.le_trans (yP h2) h1
theorem wY {neg : Bool} {x : Nat} (h : room x) : (wr neg x).2 = 0 := by
 unfold wr
 split
 ·rfl
 ·rw [if_neg (by have : (dec x).length ≤ 1000 := h; omega)]
theorem UF {s t : List UInt8} (hs : errI s = 0) (ht : numI t ≠ 0) : room (dmQ s t) := by
 have h := jf hs
 unfold dmQ
 split
 ·rename_i hc
  by_cases h1 : numI t = 1
  ·rw [h1, Nat.mod_one] at hc; omega
  ·refine room_le ?_ h
   have h2 : numI s / numI t ≤ numI s / 2 := Nat.div_le_div_left (by omega) (by omega)
   have h3 : numI s ≠ 0 := fun h0 => by rw [h0, Nat.zero_mod] at hc; omega
   by_cases h4 : numI s = 1
   ·have : numI s / numI t = 0 := Nat.div_eq_of_lt (by omega)
    omega
   ·omega
 ·exact room_le (Nat.div_le_self _ _) h
theorem YV {s t : List UInt8} (ht : errI t = 0) (h0 : numI t ≠ 0) : room (dmM s t) := by
 have h := jf ht
 have hm := Nat.mod_lt (numI s) (Nat.pos_of_ne_zero h0)
 unfold dmM
 split
 ·exact room_le (Nat.sub_le _ _) h
 ·exact room_le (by omega) h
end Go.Nov
namespace Go.Nov
theorem vB : wr false 1 = ([49], 0) := by
 have h : dec 1 = [1] := by
  show Ten.canon 1 = [1]
  rw [Ten.qA (by decide)]
  exact congrArg (1 :: ·) Ten.z8
 simp [wr, h, txt, sgn, byt]
theorem Vc {x : Nat} (h : room x) : (wr false x).1 = [49] ↔ x = 1 := by
 constructor
 ·intro e
  have := (yw (wY (neg := false) h)).2.1
  rw [e] at this
  exact this.symm
 ·rintro rfl
  rw [vB]
theorem UK {x : Nat} (h0 : x ≠ 0) (h : room x) : [45] ++ (wr false x).1 = (wr true x).1 := by
 unfold wr
 rw [if_neg h0, if_neg h0, if_neg (by have : (dec x).length ≤ 1000 := h; omega), if_neg (by have : (dec x).length ≤ 1000 := h; omega)]
 rfl
theorem x7 {t : List UInt8} (h : errI t = 0) : t = [48] ↔ numI t = 0 := by
 constructor
 ·rintro rfl; rfl
 ·intro h0
  obtain ⟨neg, b, h1, h2, h3, h4, h5, h6⟩ := Q0 h
  have hb : numD b = 0 := by simpa [numI, h2] using h0
  cases b with
  | nil => exact absurd rfl h5
  | cons c r =>
   have hc := h4 c (by simp)
   have e : numD (c :: r) = (c.toNat - 48) * 10 ^ r.length + numD r := by
    have := wT [c] r
    simp only [List.singleton_append] at this
    rw [this]
    simp [numD]
   rw [e] at hb
   have hc0 : c.toNat = 48 := by
    rcases Nat.eq_zero_or_pos (c.toNat - 48) with h7 | h7
    ·omega
    ·have := Nat.mul_pos h7 (Nat.pow_pos (n := r.length) (show 0 < 10 by decide))
     omega
   have hc1 : c = 48 := UInt8.toNat_inj.1 (by rw [hc0]; rfl)
   subst hc1
   have hr : r = [] := by
    cases r with
    | nil => rfl
    | cons d r =>
     have := v5 (neg := neg) (b := 48 :: d :: r) rfl (by simp)
     rw [this] at h3; cases h3
   subst hr
   cases neg with
   | true => cases h3
   | false => simpa [sgn] using h1
theorem Wr {s : List UInt8} {b : Bool} {g : Nat} (hs : errI s = 0) (h0 : g ≠ 0) (hg : room g) (hd : g ∣ numI s) : dmI s (wr b g).1 = ((wr (negI s != b) (numI s / g)).1, [48], 0) := by
 obtain ⟨h1, h2, h3⟩ := yw (wY (neg := b) hg)
 have hb : negI (wr b g).1 = b := by rw [h3]; simp [h0]
 have he : zp s (wr b g).1 = 0 := zk.2 ⟨hs, h1⟩
 have hm : numI s % g = 0 := Nat.mod_eq_zero_of_dvd hd
 unfold dmI
 rw [if_neg (by rw [he]; decide), h2, if_neg h0, hb]
 have hq : dmQ s (wr b g).1 = numI s / g := by
  unfold dmQ
  rw [h2, hm, if_neg (by omega)]
 have hr : dmM s (wr b g).1 = 0 := by
  unfold dmM
  rw [h2, hm, if_neg (by omega)]
 rw [hq, hr]
 rfl
theorem JP {s t : List UInt8} (ht : errI t = 0) (h0 : numI t ≠ 0) : Nat.gcd (numI s) (numI t) ≠ 0 ∧ room (Nat.gcd (numI s) (numI t)) := by
 have hp := Nat.pos_of_ne_zero h0
 refine ⟨fun h => ?_, room_le (Nat.le_of_dvd hp (Nat.gcd_dvd_right _ _)) (jf ht)⟩
 have := Nat.eq_zero_of_gcd_eq_zero_right h
 exact h0 this
end Go.Nov
namespace Go.Nov
theorem Uf : errI [49] = 0 := rfl
theorem qz {a : List UInt8} (h : errR a = 0) : errI (numR a) = 0 ∧ errI (denR a) = 0 ∧ negI (denR a) = false ∧ numI (denR a) ≠ 0 := by
 unfold errR at h
 unfold numR denR
 cases hc : (cutR a).2.2 with
 | true =>
  rw [hc] at h
  simp only [if_true] at h ⊢
  split at h
  ·cases h
  ·rename_i h1
   simp only [not_or] at h1
   split at h
   ·cases h
   ·rename_i h2
    simp only [not_or, Classical.not_not] at h2
    refine ⟨h2.1, h2.2, by simpa using h1.2.2.1, fun h0 => ?_⟩
    exact h1.2.2.2.1 ((x7 h2.2).2 h0)
 | false =>
  rw [hc] at h
  simp only [Bool.false_eq_true, if_false] at h ⊢
  have : (cutR a).1 = a := by
   unfold cutR at hc ⊢
   split at hc
   ·cases hc
   ·rename_i hn; rw [if_neg hn]
  rw [this]
  exact ⟨h, Uf, rfl, by decide⟩
theorem Jo (a : List UInt8) : (numR a).length ≤ a.length := (Q6 a).1
theorem W0 (a : List UInt8) : (denR a).length ≤ a.length + 1 := by
 unfold denR
 split
 ·exact Nat.le_trans (Q6 a).2 (Nat.le_succ _)
 ·simp
theorem wJ {s t : List UInt8} (h : zp s t = 0) : (mulI s t).2 = 0 ∧ errI (mulI s t).1 = 0 ∨ mulI s t = ([], 14) := by
 unfold mulI
 rw [if_pos h]
 exact (Vo _ _).imp (fun h => ⟨h, (yw h).1⟩) id
theorem Yw {s t : List UInt8} (h : zp s t = 0) : (addI s t).2 = 0 ∧ errI (addI s t).1 = 0 ∨ addI s t = ([], 14) := by
 unfold addI
 rw [if_pos h]
 exact (Vo _ _).imp (fun h => ⟨h, (yw h).1⟩) id
theorem UX {s t : List UInt8} (h : zp s t = 0) : (subI s t).2 = 0 ∧ errI (subI s t).1 = 0 ∨ subI s t = ([], 14) := by
 unfold subI
 rw [if_pos h]
 exact (Vo _ _).imp (fun h => ⟨h, (yw h).1⟩) id
end Go.Nov
namespace Go.Nov
def stp (e : Int) (f : List UInt8 → List UInt8 → List UInt8 × Int) (x y : List UInt8) : List UInt8 × Int := if e ≠ 0 then ([], e) else f x y
theorem zb9 {e : Int} {f : List UInt8 → List UInt8 → List UInt8 × Int} {x y : List UInt8} (h : (f x y).1.length ≤ 1001) : (stp e f x y).1.length ≤ 1001 := by
 unfold stp
 split
 ·simp
 ·exact h
theorem zS {e : Int} (h : e ≠ 0) (f : List UInt8 → List UInt8 → List UInt8 × Int) (x y : List UInt8) : stp e f x y = ([], e) := if_pos h
theorem jH (f : List UInt8 → List UInt8 → List UInt8 × Int) (x y : List UInt8) : stp 0 f x y = f x y := if_neg (by simp)
def uo (f : List UInt8 → List UInt8 → List UInt8 × Int) (a b : List UInt8) : List UInt8 × Int :=
 if zP a b ≠ 0 then ([], zP a b) else frac (f (mulI (numR a) (denR b)).1 (mulI (numR b) (denR a)).1) (mulI (denR a) (denR b))
section
variable {a b n m d c : List UInt8} {e : Int} (hp : (e ≠ 0 ∧ jw a b = e) ∨ (e = 0 ∧ errR a = 0 ∧ errR b = 0 ∧ n = numR a ∧ m = numR b ∧ d = denR a ∧ c = denR b))
include hp
theorem y4 {f : List UInt8 → List UInt8 → List UInt8 × Int} (hf : ∀ {s t : List UInt8}, zp s t = 0 → (f s t).2 = 0 ∧ errI (f s t).1 = 0 ∨ f s t = ([], 14)) {r1 r2 r3 r4 r5 : List UInt8 × Int}
  (h1 : r1 = stp e mulI n c) (h2 : r2 = stp r1.2 mulI m d) (h3 : r3 = stp r2.2 f r1.1 r2.1) (h4 : r4 = stp r3.2 mulI d c) (h5 : r5 = stp r4.2 j7 r3.1 r4.1) : r5 = uo f a b := by
 rcases hp with ⟨he, h2e⟩ | ⟨rfl, ha, hb, rfl, rfl, rfl, rfl⟩
 ·have hc : zP a b = e := by unfold zP; rw [if_pos (by rw [h2e]; exact he)]; exact h2e
  unfold uo
  rw [hc, if_pos he]
  rw [zS he] at h1
  subst h1
  rw [zS he] at h2
  subst h2
  rw [zS he] at h3
  subst h3
  rw [zS he] at h4
  subst h4
  rw [h5, zS he]
 ·obtain ⟨a1, a2, _⟩ := qz ha
  obtain ⟨b1, b2, _⟩ := qz hb
  have he2 : jw a b = 0 := by unfold jw; rw [if_pos ha]; exact hb
  have e14 : (14 : Int) ≠ 0 := by decide
  rw [jH] at h1
  have hc : zP a b = if (mulI (numR a) (denR b)).2 ≠ 0 ∨ (mulI (numR b) (denR a)).2 ≠ 0 then 14 else 0 := by unfold zP; rw [if_neg (by rw [he2]; simp)]
  rcases wJ (zk.2 ⟨a1, b2⟩) with ⟨g1, k1⟩ | g1
  ·rw [← h1] at g1 k1
   rw [g1, jH] at h2
   rcases wJ (zk.2 ⟨b1, a2⟩) with ⟨g2, k2⟩ | g2
   ·rw [← h2] at g2 k2
    rw [g2, jH] at h3
    have hc0 : zP a b = 0 := by rw [hc, if_neg]; rw [← h1, ← h2, g1, g2]; simp
    unfold uo
    rw [hc0, if_neg (by simp), ← h1, ← h2, ← h3]
    rcases hf (zk.2 ⟨k1, k2⟩) with ⟨g3, k3⟩ | g3
    ·rw [← h3] at g3 k3
     rw [g3, jH] at h4
     unfold frac
     rw [← h4, h5]
     rcases wJ (zk.2 ⟨a2, b2⟩) with ⟨g4, k4⟩ | g4
     ·rw [← h4] at g4
      rw [g3, g4, if_neg (by simp), jH]
     ·rw [← h4] at g4
      rw [g4, if_pos (by simp), zS e14]
    ·rw [← h3] at g3
     have q4 : r4 = ([], 14) := by rw [h4, g3]; exact zS e14 _ _ _
     unfold frac
     rw [if_pos (by rw [g3]; simp), h5, q4, zS e14]
   ·rw [← h2] at g2
    have hc0 : zP a b = 14 := by rw [hc, if_pos]; rw [← h2, g2]; simp
    unfold uo
    rw [hc0, if_pos e14]
    have q3 : r3 = ([], 14) := by rw [h3, g2]; exact zS e14 _ _ _
    have q4 : r4 = ([], 14) := by rw [h4, q3]; exact zS e14 _ _ _
    rw [h5, q4, zS e14]
  ·rw [← h1] at g1
   have hc0 : zP a b = 14 := by rw [hc, if_pos]; rw [← h1, g1]; simp
   unfold uo
   rw [hc0, if_pos e14]
   have q2 : r2 = ([], 14) := by rw [h2, g1]; exact zS e14 _ _ _
   have q3 : r3 = ([], 14) := by rw [h3, q2]; exact zS e14 _ _ _
   have q4 : r4 = ([], 14) := by rw [h4, q3]; exact zS e14 _ _ _
   rw [h5, q4, zS e14]
theorem X0 {x y z w : List UInt8} {r1 r2 r3 : List UInt8 × Int} (h1 : r1 = stp e mulI x y) (h2 : r2 = stp r1.2 mulI z w) (h3 : r3 = stp r2.2 j7 r1.1 r2.1)
  (hv : errR a = 0 → errR b = 0 → zp x y = 0 ∧ zp z w = 0) : r3 = if jw a b ≠ 0 then ([], jw a b) else frac (mulI x y) (mulI z w) := by
 rcases hp with ⟨he, h2e⟩ | ⟨rfl, ha, hb, _⟩
 ·rw [h2e, if_pos he]
  rw [zS he] at h1
  subst h1
  rw [zS he] at h2
  subst h2
  rw [h3, zS he]
 ·obtain ⟨v1, v2⟩ := hv ha hb
  have he2 : jw a b = 0 := by unfold jw; rw [if_pos ha]; exact hb
  have e14 : (14 : Int) ≠ 0 := by decide
  rw [he2, if_neg (by simp)]
  rw [jH] at h1
  unfold frac
  rcases wJ v1 with ⟨g1, _⟩ | g1
  ·rw [← h1] at g1 ⊢
   rw [g1, jH] at h2
   rcases wJ v2 with ⟨g2, _⟩ | g2
   ·rw [← h2] at g2 ⊢
    rw [g1, g2, if_neg (by simp), h3, g2, jH]
   ·rw [← h2] at g2 ⊢
    rw [g2, if_pos (by simp), h3, g2, zS e14]
  ·rw [← h1] at g1 ⊢
   have q2 : r2 = ([], 14) := by rw [h2, g1]; exact zS e14 _ _ _
   rw [g1, if_pos (by simp), h3, q2, zS e14]
theorem KG {r1 r2 : List UInt8 × Int} (h1 : r1 = stp e mulI n c) (h2 : r2 = stp r1.2 mulI m d) : (if r2.2 ≠ 0 then (0, r2.2) else ZL r1.1 r2.1) = cmpR a b := by
 unfold cmpR
 rcases hp with ⟨he, h2e⟩ | ⟨rfl, ha, hb, rfl, rfl, rfl, rfl⟩
 ·have hc : zP a b = e := by unfold zP; rw [if_pos (by rw [h2e]; exact he)]; exact h2e
  rw [zS he] at h1
  subst h1
  rw [zS he] at h2
  subst h2
  rw [hc, if_pos he, if_pos he]
 ·obtain ⟨a1, a2, _⟩ := qz ha
  obtain ⟨b1, b2, _⟩ := qz hb
  have he2 : jw a b = 0 := by unfold jw; rw [if_pos ha]; exact hb
  have e14 : (14 : Int) ≠ 0 := by decide
  have hc : zP a b = if (mulI (numR a) (denR b)).2 ≠ 0 ∨ (mulI (numR b) (denR a)).2 ≠ 0 then 14 else 0 := by unfold zP; rw [if_neg (by rw [he2]; simp)]
  rw [jH] at h1
  rcases wJ (zk.2 ⟨a1, b2⟩) with ⟨g1, k1⟩ | g1
  ·rw [← h1] at g1
   rw [g1, jH] at h2
   rcases wJ (zk.2 ⟨b1, a2⟩) with ⟨g2, k2⟩ | g2
   ·rw [← h2] at g2
    have hc0 : zP a b = 0 := by rw [hc, if_neg]; rw [← h1, ← h2, g1, g2]; simp
    rw [hc0, if_neg (by rw [g2]; simp), if_neg (by simp), ← h1, ← h2]
   ·rw [← h2] at g2
    have hc0 : zP a b = 14 := by rw [hc, if_pos]; rw [← h2, g2]; simp
    rw [hc0, g2, if_pos e14, if_pos e14]
  ·rw [← h1] at g1
   have hc0 : zP a b = 14 := by rw [hc, if_pos]; rw [← h1, g1]; simp
   have q2 : r2 = ([], 14) := by rw [h2, g1]; exact zS e14 _ _ _
   rw [hc0, q2, if_pos e14, if_pos e14]
end
end Go.Nov
end

/- Orders of what is known. -/
section
namespace Go.Nov
open Go.Sx
def cmpS (s t : List UInt8) : Int := if Op.bytesLess s t then -1 else if s = t then 0 else 1
def cmpI (x y : Int) : Int := if x < y then -1 else if y < x then 1 else 0
def orI : List Int → Int
 | [] => 0
 | x :: l => if x = 0 then orI l else x
structure Fx where
 name : List UInt8
 date : Int
 value : List UInt8
structure Ch where
 zo : List UInt8
 name : List UInt8
 date : Int
 first : Bool
abbrev Fx.nil : Fx := ⟨[], 0, []⟩
abbrev Ch.nil : Ch := ⟨[], [], 0, false⟩
def Fx.cell (f : Fx) : Nat → AV
 | 0 => .str f.name
 | 1 => .int .i64 f.date
 | 2 => .str f.value
 | _ => .undef
def Ch.cell (c : Ch) : Nat → AV
 | 0 => .str c.zo
 | 1 => .str c.name
 | 2 => .int .i64 c.date
 | 3 => .bool c.first
 | _ => .undef
def fxG (l : List Fx) : Nat → Nat → AV := fun j => (l.getD j Fx.nil).cell
def chG (l : List Ch) : Nat → Nat → AV := fun j => (l.getD j Ch.nil).cell
def Fx.av (f : Fx) : AV := .agg [.str f.name, .int .i64 f.date, .str f.value]
def Ch.av (c : Ch) : AV := .agg [.str c.zo, .str c.name, .int .i64 c.date, .bool c.first]
def fxS (l : List Fx) : AV := .sl l.length 3 (fxG l)
def chS (l : List Ch) : AV := .sl l.length 4 (chG l)
def envA (f : List Fx) (c : List Ch) : AV := .agg [fxS f, chS c]
def cmpF (a b : Fx) : Int := if cmpS a.name b.name = 0 then cmpI a.date b.date else cmpS a.name b.name
def cmpC (a b : Ch) : Int := if cmpS a.zo b.zo = 0 then (if cmpS a.name b.name = 0 then cmpI a.date b.date else cmpS a.name b.name) else cmpS a.zo b.zo
end Go.Nov
namespace Go.Nov
def okF (f : Fx) : Bool := qK f.name && dayB f.date && decide (errR f.value = 0)
def okC (c : Ch) : Bool := qK c.zo && qK c.name && dayB c.date
def idxB {α : Type} (p : α → Bool) (l : List α) : Int := if l.findIdx p < l.length then (l.findIdx p : Int) else -1
theorem Jv {α : Type} (p : α → Bool) (l : List α) : decide (0 ≤ idxB p l) = l.any p := by
 unfold idxB
 by_cases h : l.findIdx p < l.length
 ·rw [if_pos h]
  have : l.any p = true := by
   rw [List.any_eq_true]
   exact ⟨_, List.getElem_mem h, List.findIdx_getElem (w := h)⟩
  rw [this]; simp
 ·rw [if_neg h]
  have : l.any p = false := by
   rw [List.any_eq_false]
   intro x hx hpx
   exact h (List.findIdx_lt_length_of_exists ⟨x, hx, hpx⟩)
  rw [this]; rfl
theorem yJ {α : Type} {p : α → Bool} {l : List α} {z : α} {i : Nat} (hi : i < l.length) (h : p (l.getD i z) = true) (hb : ∀ j, j < i → p (l.getD j z) = false) : idxB p l = i := by
 have hlt : l.findIdx p < l.length := List.findIdx_lt_length_of_exists ⟨l[i], List.getElem_mem hi, by simpa [List.getD, hi] using h⟩
 have e : l.findIdx p = i := by
  rcases Nat.lt_trichotomy (l.findIdx p) i with h1 | h1 | h1
  ·have h2 := List.findIdx_getElem (w := hlt)
   have h3 := hb _ h1
   simp only [List.getD, List.getElem?_eq_getElem hlt, Option.getD_some] at h3
   rw [h2] at h3; cases h3
  ·exact h1
  ·have h2 := List.not_of_lt_findIdx h1
   simp only [List.getD, List.getElem?_eq_getElem hi, Option.getD_some] at h
   exact absurd h (by simpa using h2)
 unfold idxB
 rw [if_pos hlt, e]
theorem kr {α : Type} {p : α → Bool} {l : List α} {z : α} (hb : ∀ j, j < l.length → p (l.getD j z) = false) : idxB p l = -1 := by
 unfold idxB
 rw [if_neg]
 intro h
 have h2 := List.findIdx_getElem (w := h)
 have h3 := hb _ h
 simp only [List.getD, List.getElem?_eq_getElem h, Option.getD_some] at h3
 rw [h2] at h3; cases h3
end Go.Nov
namespace Go.Nov
def ordB {α : Type} (c : α → α → Int) (z : α) (l : List α) : Bool := (List.range (l.length - 1)).all fun i => decide (c (l.getD i z) (l.getD (i + 1) z) < 0)
theorem uE {α : Type} {c : α → α → Int} {z : α} {l : List α} (h : ∀ j, j + 1 < l.length → c (l.getD j z) (l.getD (j + 1) z) < 0) : ordB c z l = true := by
 simp only [ordB, List.all_eq_true, List.mem_range, decide_eq_true_eq]
 exact fun j hj => h j (by omega)
theorem Jn {α : Type} {c : α → α → Int} {z : α} {l : List α} {j : Nat} (hj : j + 1 < l.length) (h : ¬ c (l.getD j z) (l.getD (j + 1) z) < 0) : ordB c z l = false := by
 simp only [ordB, List.all_eq_false, List.mem_range]
 exact ⟨j, by omega, by simpa using h⟩
def errE (f : List Fx) (c : List Ch) : Int := if 1000 < f.length ∨ 1000 < c.length then 4 else if (f.all okF && c.all okC && ordB cmpF Fx.nil f && ordB cmpC Ch.nil c) = true then 0 else 8
end Go.Nov
namespace Go.Nov
theorem zc4 {x y : Int} : cmpI x y < 0 ↔ x < y := by
 unfold cmpI
 split
 ·rename_i h; exact ⟨fun _ => h, fun _ => by decide⟩
 ·rename_i h
  split
  ·exact ⟨fun h2 => by omega, fun h2 => absurd h2 h⟩
  ·exact ⟨fun h2 => by omega, fun h2 => absurd h2 h⟩
end Go.Nov
namespace Go.Nov
end Go.Nov
end

/- A place in an ordered list. -/
section
namespace Go.Nov
open Go.Sx
theorem QJ : ∀ s : List UInt8, Op.bytesLess s s = false
 | [] => rfl
 | a :: s => by simp [Op.bytesLess, QJ s]
theorem xz : ∀ {s t u : List UInt8}, Op.bytesLess s t = true → Op.bytesLess t u = true → Op.bytesLess s u = true
 | s, [], u, h, _ => by cases s <;> simp [Op.bytesLess] at h
 | [], b :: t, [], _, h => by simp [Op.bytesLess] at h
 | [], b :: t, c :: u, _, _ => rfl
 | a :: s, b :: t, [], _, h => by simp [Op.bytesLess] at h
 | a :: s, b :: t, c :: u, h, k => by
  simp only [Op.bytesLess, Bool.or_eq_true, Bool.and_eq_true, decide_eq_true_eq, beq_iff_eq] at h k ⊢
  rcases h with h | ⟨rfl, h⟩
  ·rcases k with k | ⟨rfl, k⟩
   ·exact .inl (UInt8.lt_trans h k)
   ·exact .inl h
  ·rcases k with k | ⟨rfl, k⟩
   ·exact .inl k
   ·exact .inr ⟨rfl, xz h k⟩
theorem VM {s t : List UInt8} : cmpS s t < 0 ↔ Op.bytesLess s t = true := by
 unfold cmpS
 cases Op.bytesLess s t with
 | true => simp
 | false => by_cases h : s = t <;> simp [h]
theorem jJ {s t : List UInt8} : cmpS s t = 0 ↔ s = t := by
 unfold cmpS
 cases hb : Op.bytesLess s t with
 | true =>
  simp only [if_true]
  refine ⟨fun h => by omega, fun h => ?_⟩
  subst h; rw [QJ] at hb; cases hb
 | false => by_cases h : s = t <;> simp [h]
theorem VL {x y : Int} : cmpI x y = 0 ↔ x = y := by
 unfold cmpI
 split
 ·exact ⟨fun h => by omega, fun h => by omega⟩
 ·split
  ·exact ⟨fun h => by omega, fun h => by omega⟩
  ·exact ⟨fun _ => by omega, fun _ => rfl⟩
theorem jU {a b : Fx} : cmpF a b = 0 ↔ a.name = b.name ∧ a.date = b.date := by
 unfold cmpF
 by_cases h : cmpS a.name b.name = 0
 ·rw [if_pos h, VL]; exact ⟨fun h2 => ⟨jJ.1 h, h2⟩, fun h2 => h2.2⟩
 ·rw [if_neg h]; exact ⟨fun h2 => absurd h2 h, fun h2 => absurd (jJ.2 h2.1) h⟩
theorem ky {a b : Fx} : cmpF a b < 0 ↔ Op.bytesLess a.name b.name = true ∨ a.name = b.name ∧ a.date < b.date := by
 unfold cmpF
 by_cases h : cmpS a.name b.name = 0
 ·rw [if_pos h, zc4]
  have h2 := jJ.1 h
  rw [h2, QJ]
  simp
 ·rw [if_neg h, VM]
  exact ⟨fun h2 => .inl h2, fun h2 => h2.elim id fun h3 => absurd (jJ.2 h3.1) h⟩
theorem zc2 {a b : Ch} : cmpC a b = 0 ↔ a.zo = b.zo ∧ a.name = b.name ∧ a.date = b.date := by
 unfold cmpC
 by_cases h : cmpS a.zo b.zo = 0
 ·rw [if_pos h]
  have h1 := jJ.1 h
  by_cases h' : cmpS a.name b.name = 0
  ·rw [if_pos h', VL]; exact ⟨fun h2 => ⟨h1, jJ.1 h', h2⟩, fun h2 => h2.2.2⟩
  ·rw [if_neg h']; exact ⟨fun h2 => absurd h2 h', fun h2 => absurd (jJ.2 h2.2.1) h'⟩
 ·rw [if_neg h]; exact ⟨fun h2 => absurd h2 h, fun h2 => absurd (jJ.2 h2.1) h⟩
theorem Kn {a b : Ch} : cmpC a b < 0 ↔ Op.bytesLess a.zo b.zo = true ∨ a.zo = b.zo ∧ (Op.bytesLess a.name b.name = true ∨ a.name = b.name ∧ a.date < b.date) := by
 unfold cmpC
 by_cases h : cmpS a.zo b.zo = 0
 ·rw [if_pos h]
  have h1 := jJ.1 h
  rw [h1, QJ]
  have := @ky ⟨a.name, a.date, []⟩ ⟨b.name, b.date, []⟩
  simp only [cmpF] at this
  simpa using this
 ·rw [if_neg h, VM]
  exact ⟨fun h2 => .inl h2, fun h2 => h2.elim id fun h3 => absurd (jJ.2 h3.1) h⟩
structure OrdK {α : Type} (c : α → α → Int) : Prop where
 lt : ∀ a b d, c a b < 0 → c b d < 0 → c a d < 0
 eq : ∀ a b d, c a b < 0 → c b d = 0 → c a d < 0
theorem Q9 : OrdK cmpF where
 lt a b d h k := by
  rw [ky] at *
  rcases h with h | ⟨h1, h2⟩
  ·rcases k with k | ⟨k1, k2⟩
   ·exact .inl (xz h k)
   ·rw [k1] at h; exact .inl h
  ·rcases k with k | ⟨k1, k2⟩
   ·rw [← h1] at k; exact .inl k
   ·exact .inr ⟨h1.trans k1, by omega⟩
 eq a b d h k := by
  rw [jU] at k
  rw [ky] at *
  rw [k.1, k.2] at h
  exact h
theorem UW : OrdK cmpC where
 lt a b d h k := by
  rw [Kn] at *
  rcases h with h | ⟨h0, h⟩
  ·rcases k with k | ⟨k0, k⟩
   ·exact .inl (xz h k)
   ·rw [k0] at h; exact .inl h
  ·rcases k with k | ⟨k0, k⟩
   ·rw [← h0] at k; exact .inl k
   ·refine .inr ⟨h0.trans k0, ?_⟩
    rcases h with h | ⟨h1, h2⟩
    ·rcases k with k | ⟨k1, k2⟩
     ·exact .inl (xz h k)
     ·rw [k1] at h; exact .inl h
    ·rcases k with k | ⟨k1, k2⟩
     ·rw [← h1] at k; exact .inl k
     ·exact .inr ⟨h1.trans k1, by omega⟩
 eq a b d h k := by
  rw [zc2] at k
  rw [Kn] at *
  rw [k.1, k.2.1, k.2.2] at h
  exact h
section
variable {α : Type} {c : α → α → Int} {z x : α}
def zw (c : α → α → Int) (x : α) : List α → List α
 | [] => [x]
 | o :: l => if c o x < 0 then o :: zw c x l else if c o x = 0 then x :: l else x :: o :: l
theorem yI (hk : OrdK c) : ∀ {l : List α}, ordB c z l = true → l.Pairwise fun a b => c a b < 0
 | [], _ => .nil
 | [a], _ => by simp
 | a :: b :: l, h => by
  have h1 : c a b < 0 := by
   simp only [ordB, List.all_eq_true, List.mem_range, decide_eq_true_eq] at h
   have := h 0 (by simp)
   simpa using this
  have h2 : ordB c z (b :: l) = true := by
   simp only [ordB, List.all_eq_true, List.mem_range, decide_eq_true_eq] at h ⊢
   intro i hi
   have := h (i + 1) (by simp at hi ⊢; omega)
   simpa using this
  have ih := yI hk h2
  refine List.pairwise_cons.2 ⟨fun y hy => ?_, ih⟩
  rcases List.mem_cons.1 hy with rfl | hy
  ·exact h1
  ·exact hk.lt _ _ _ h1 (List.rel_of_pairwise_cons ih hy)
theorem yb (hk : OrdK c) : ∀ {l : List α} {k : Nat}, l.Pairwise (fun a b => c a b < 0) → k < l.length → c (l.getD k z) x = 0 → l.set k x = zw c x l
 | [], k, _, h, _ => by simp at h
 | o :: l, 0, _, _, h => by
  simp only [List.getD_cons_zero] at h
  simp only [List.set_cons_zero, zw]
  rw [if_neg (by omega), if_pos h]
 | o :: l, k + 1, hp, hl, h => by
  simp only [List.getD_cons_succ] at h
  have hl : k < l.length := by simpa using hl
  have ih := yb hk (List.pairwise_cons.1 hp).2 hl h
  have ho : c o (l.getD k z) < 0 := List.rel_of_pairwise_cons hp (by simp [List.getD, hl])
  simp only [List.set_cons_succ, zw]
  rw [if_pos (hk.eq _ _ _ ho h), ih]
theorem xP : ∀ {l : List α} {i : Nat}, (∀ j, j < l.length → c (l.getD j z) x ≠ 0) → (∀ j, j < i → c (l.getD j z) x < 0) → i ≤ l.length → (i < l.length → ¬ c (l.getD i z) x < 0) → l.take i ++ x :: l.drop i = zw c x l
 | [], i, _, _, hi, _ => by
  have : i = 0 := by simpa using hi
  subst this; rfl
 | o :: l, 0, h0, _, _, h => by
  have h1 := h (by simp)
  have h2 := h0 0 (by simp)
  simp only [List.getD_cons_zero] at h1 h2
  simp only [zw]
  rw [if_neg h1, if_neg h2]; rfl
 | o :: l, i + 1, h0, hb, hi, h => by
  have h1 := hb 0 (by omega)
  simp only [List.getD_cons_zero] at h1
  have ih := xP (l := l) (i := i) (fun j hj => by have := h0 (j + 1) (by simp; omega); simpa using this) (fun j hj => by have := hb (j + 1) (by omega); simpa using this) (by simpa using hi) (fun hlt => by have := h (by simp; omega); simpa using this)
  simp only [zw]
  rw [if_pos h1, ← ih]; rfl
end
theorem Zd {f : List Fx} {c : List Ch} : errE f c = 0 ↔ ¬ (1000 < f.length ∨ 1000 < c.length) ∧ f.all okF = true ∧ c.all okC = true ∧ ordB cmpF Fx.nil f = true ∧ ordB cmpC Ch.nil c = true := by
 unfold errE
 by_cases hb : 1000 < f.length ∨ 1000 < c.length
 ·rw [if_pos hb]; simp [hb]
 ·rw [if_neg hb]
  by_cases h : (f.all okF && c.all okC && ordB cmpF Fx.nil f && ordB cmpC Ch.nil c) = true
  ·rw [if_pos h]
   simp only [Bool.and_eq_true] at h
   exact ⟨fun _ => ⟨hb, h.1.1.1, h.1.1.2, h.1.2, h.2⟩, fun _ => rfl⟩
  ·rw [if_neg h]
   refine ⟨fun h2 => by omega, fun h2 => absurd ?_ h⟩
   simp [h2.2.1, h2.2.2.1, h2.2.2.2.1, h2.2.2.2.2]
def j5 (l : List Fx) (a : List UInt8) (d : Int) : List UInt8 × Bool := match l.find? fun x => decide (x.name = a) && decide (x.date = d) with
 | some x => (x.value, true)
 | none => ([], false)
theorem zbg {α : Type} {p : α → Bool} {l : List α} {z : α} {i : Nat} (hi : i < l.length) (h : p (l.getD i z) = true) (hb : ∀ j, j < i → p (l.getD j z) = false) : l.find? p = some (l.getD i z) := by
 induction l generalizing i with
 | nil => simp at hi
 | cons a l ih =>
  cases i with
  | zero => simp only [List.getD_cons_zero] at h ⊢; simp [h]
  | succ i =>
   have h0 := hb 0 (by omega)
   simp only [List.getD_cons_zero, List.getD_cons_succ] at h h0 ⊢
   rw [List.find?_cons, h0]
   exact ih (by simpa using hi) h fun j hj => by have := hb (j + 1) (by omega); simpa using this
def putF (f : List Fx) (c : List Ch) (x : Fx) : (List Fx × List Ch) × Int :=
 if errE f c ≠ 0 then (([], []), errE f c) else if (qK x.name && dayB x.date) = false then (([], []), 2) else if errR x.value ≠ 0 then (([], []), errR x.value)
 else if 1000 < (zw cmpF x f).length then (([], []), 22) else ((zw cmpF x f, c), 0)
end Go.Nov
end

/- Rationals: what they mean. -/
section
namespace Go.Nov
theorem zdy {b : List UInt8} (h : allD b) (hn : b ≠ []) (hz : b.getD 0 0 ≠ 48) : numD b ≠ 0 ∧ txt (numD b) = b := by
 have hd := zdo h
 have hl : 0 < b.length := List.length_pos_iff.2 hn
 have htl : Ten.tlen (dg b) = (dg b).length := by
  rcases Nat.lt_or_ge (Ten.tlen (dg b)) (dg b).length with h1 | h1
  ·exfalso
   have h2 := Ten.jn (dg b) ((dg b).length - 1) (by omega)
   rw [Vk] at h2
   have e : (dg b).getD (b.length - 1) 0 = (b.getD 0 0).toNat - 48 := by
    simp only [dg, List.getD_eq_getElem?_getD]
    rw [List.getElem?_reverse (by simp; omega)]
    simp [List.getElem?_eq_getElem hl, show b.length - 1 - (b.length - 1) = 0 by omega]
   rw [e] at h2
   have h3 : 48 ≤ (b.getD 0 0).toNat := by
    cases b with
    | nil => exact absurd rfl hn
    | cons c r => exact (h c (by simp)).1
   apply hz
   apply UInt8.toNat_inj.1
   show _ = 48
   omega
  ·exact Nat.le_antisymm (Ten.zT _) h1
 have hc : dec (numD b) = dg b := by
  rw [← WJ]
  exact Ten.Z7 hd htl
 have h0 : numD b ≠ 0 := by
  intro h0
  rw [h0] at hc
  have : dg b = [] := by rw [← hc]; exact Ten.z8
  have := congrArg List.length this
  rw [Vk, List.length_nil] at this
  omega
 refine ⟨h0, ?_⟩
 rw [xh h0, hc, dg, ← List.map_reverse, List.reverse_reverse, List.map_map]
 conv => rhs; rw [← List.map_id b]
 refine List.map_congr_left fun c hcm => ?_
 obtain ⟨h1, h2⟩ := h c hcm
 apply UInt8.toNat_inj.1
 simp only [Function.comp, id]
 rw [yF (by omega)]
 omega
theorem VO {s : List UInt8} (h : errI s = 0) : wr (negI s) (numI s) = (s, 0) := by
 obtain ⟨neg, b, h1, h2, h3, h4, h5, h6⟩ := Q0 h
 have e1 : negI s = neg := by simp [negI, h2]
 have e2 : numI s = numD b := by simp [numI, h2]
 rw [e1, e2]
 by_cases hz : b.getD 0 0 = 48
 ·have hb : b = [48] := by
   cases b with
   | nil => exact absurd rfl h5
   | cons c r =>
    cases r with
    | nil => have : c = 48 := hz; rw [this]
    | cons d r => rw [v5 hz (by simp)] at h3; cases h3
  subst hb
  cases neg with
  | true => cases h3
  | false => rw [h1]; rfl
 ·obtain ⟨g1, g2⟩ := zdy h4 h5 hz
  unfold wr
  rw [if_neg g1, g2, if_neg, h1]
  have := yK g1
  rw [g2] at this
  omega
def zI (s : List UInt8) : Int := if negI s then -(numI s : Int) else numI s
theorem jB (s : List UInt8) : (zI s).natAbs = numI s := by unfold zI; split <;> simp
theorem Jk {s : List UInt8} (h : errI s = 0) : negI s = decide (zI s < 0) := by
 unfold zI
 cases hn : negI s with
 | false => simp
 | true =>
  simp only [if_true]
  have : numI s ≠ 0 := by
   intro h0
   have := (x7 h).2 h0
   rw [this] at hn
   cases hn
  exact (decide_eq_true (by omega)).symm
def wz (z : Int) : List UInt8 × Int := wr (decide (z < 0)) z.natAbs
theorem VV {s : List UInt8} (h : errI s = 0) : wz (zI s) = (s, 0) := by
 unfold wz
 rw [jB, ← Jk h, VO h]
theorem zep {neg : Bool} {x : Nat} (h : (wr neg x).2 = 0) : zI (wr neg x).1 = if neg then -(x : Int) else x := by
 obtain ⟨h1, h2, h3⟩ := yw h
 unfold zI
 rw [h2, h3]
 by_cases h0 : x = 0
 ·subst h0; simp
 ·cases neg <;> simp [h0]
theorem kE {z : Int} (h : (wz z).2 = 0) : zI (wz z).1 = z := by
 unfold wz at h ⊢
 rw [zep h]
 by_cases hz : z < 0
 ·rw [decide_eq_true hz]; simp only [if_true]; omega
 ·rw [decide_eq_false hz]; simp only [Bool.false_eq_true, if_false]; omega
theorem yv {z : Int} (h : (wz z).2 = 0) : errI (wz z).1 = 0 := (yw h).1
theorem J0 {neg : Bool} {x : Nat} : wr neg x = wz (if neg then -(x : Int) else x) := by
 unfold wz
 by_cases h0 : x = 0
 ·subst h0
  cases neg <;> rfl
 ·cases neg with
  | false => simp only [Bool.false_eq_true, if_false, Int.natAbs_natCast]; rw [decide_eq_false (by omega)]
  | true => simp only [if_true, Int.natAbs_neg, Int.natAbs_natCast]; rw [decide_eq_true (by omega)]
theorem Uv (m : Bool) (x : Nat) (n : Bool) (y : Nat) : (if (sumS m x n y).1 then -((sumS m x n y).2 : Int) else (sumS m x n y).2) = (if m then -(x : Int) else x) + (if n then -(y : Int) else y) := by
 unfold sumS
 by_cases h : m = n
 ·subst h
  rw [if_pos rfl]
  cases m <;> simp <;> omega
 ·rw [if_neg h]
  by_cases h2 : y ≤ x
  ·rw [if_pos h2]
   cases m <;> cases n <;> first | exact absurd rfl h | (simp; omega)
  ·rw [if_neg h2]
   cases m <;> cases n <;> first | exact absurd rfl h | (simp; omega)
theorem zea {s t : List UInt8} (h : zp s t = 0) : addI s t = wz (zI s + zI t) := by
 unfold addI
 rw [if_pos h, J0, Uv]; rfl
theorem ze4 {s t : List UInt8} (h : zp s t = 0) : subI s t = wz (zI s - zI t) := by
 unfold subI
 rw [if_pos h, J0, Uv]
 congr 1
 unfold zI
 cases negI s <;> cases negI t <;> simp <;> omega
theorem yn {s t : List UInt8} (h : zp s t = 0) : mulI s t = wz (zI s * zI t) := by
 unfold mulI
 rw [if_pos h, J0]
 congr 1
 unfold zI
 cases negI s <;> cases negI t <;> simp [Int.neg_mul, Int.mul_neg]
end Go.Nov
end
