/- Part 4 of the proof. -/
import Derived.Test.YtabhidbmlldadaaSxc
import Derived.Lib.Strings
import Derived.Lib.Slices
import Derived.Lib.Walk
import Derived.Lib.Bytealg
import Derived.Test.YtabhidbmlldadaaProg
/- The integers' texts: Check, pair, Gcd. -/
section
set_option linter.unusedVariables false
set_option linter.unusedSimpArgs false
set_option maxRecDepth 100000
open Go Go.Sx Go.Proofs Go.Nov
namespace Go.Proofs.Try
attribute [local simp] eqKV eqA eqA0 eqH eqB eqL eqL0
noncomputable def K42 : List Go.Sx.Item := [.code (Try.f42.body.getD .skip)]
noncomputable def K58 : List Go.Sx.Item := [.code (Try.f58.body.getD .skip)]
noncomputable def K43 : List Go.Sx.Item := [.code (Try.f43.body.getD .skip)]

theorem dig_test (c : UInt8) : (if decide ((c.toNat : Int) < 48) = true then true else decide (57 < (c.toNat : Int))) = !isD c := by
  simp only [isD]
  by_cases h : c.toNat < 48
  · rw [if_pos (by simp; omega)]; simp; omega
  · rw [if_neg (by simp; omega)]
    by_cases h2 : c.toNat ≤ 57
    · have : decide (57 < (c.toNat : Int)) = false := by simp; omega
      rw [this]; simp; omega
    · have : decide (57 < (c.toNat : Int)) = true := by simp; omega
      rw [this]; simp; omega
def checkC : Ctr := ctrP true (fun s : List UInt8 => [.str s]) (fun s => s.length < 2 ^ 62) (fun s r => r = errI s) (fun _ r => (.int .i64 r, []))
def SCk (b : List UInt8) (i : Nat) : KV := [(3, .str b), (31, .int .i64 (b.length : Int)), (32, .int .i64 (i : Int)), (40, .undef), (41, .undef), (42, .undef), (43, .undef)]

theorem check_loop {O : Nat → Prop} {w0 : World} {Q : AV × Heap → Prop} {neg : Bool} (b : List UInt8) (hb : b.length < 2 ^ 62) (hf : b.all isD = true → formB neg b = true)
    (hq : Q (.int .i64 (if formB neg b then (if 1000 < b.length then 14 else 0) else 12), [])) :
    SafeK Try.prog Try.f42 O 0 w0 [] (fun _ _ _ => False) (RetR checkC 0 Q) (.code (.loop (lps K42 0).1) :: (lps K42 0).2) (mk Try.f42.ntmps (SCk b 0) []) := by
  refine SafeK.loop (ι := {i : Nat // i ≤ b.length ∧ ∀ j, j < i → isD (b.getD j 0) = true}) (fun i => SCk b i.1) (fun _ => []) (fun i => b.length - i.1) ⟨0, Nat.zero_le _, fun j hj => by omega⟩ 0 ?_ ?_ (by kernel_rfl)
  · exact ⟨by simp [SCk], by simp, by kernel_rfl, Nat.zero_le _⟩
  · rintro ⟨i, hil, hid⟩
    refine SafeK.run (k := inside K42 0) hmix noG_ok [3, 31, 32, 40, 41, 42, 43] 400 (T := Tree.ite (decide ((↑i : Int) < (↑(List.length b) : Int))) (Tree.side ((0 : Int) ≤ (↑i : Int) ∧ (↑i : Int) < (↑(List.length b) : Int)) (Tree.side (decide ((↑(UInt8.toNat (List.getD b (Int.toNat (↑i : Int)) (0 : UInt8))) : Int) < (48 : Int)) = false → (0 : Int) ≤ (↑i : Int) ∧ (↑i : Int) < (↑(List.length b) : Int)) (Tree.ite (bif decide ((↑(UInt8.toNat (List.getD b (Int.toNat (↑i : Int)) (0 : UInt8))) : Int) < (48 : Int)) then true else decide ((57 : Int) < (↑(UInt8.toNat (List.getD b (Int.toNat (↑i : Int)) (0 : UInt8))) : Int))) (Tree.leaf (Leaf2.ret [AV.int IntKind.i64 (12 : Int)] [])) (Tree.side (inR IntKind.i64 ((↑i : Int) + (1 : Int))) (Tree.leaf (Leaf2.back (0 : Nat) [((3 : Nat), AV.str b), ((31 : Nat), AV.int IntKind.i64 (↑(List.length b) : Int)), ((32 : Nat), AV.int IntKind.i64 ((↑i : Int) + (1 : Int))), ((40 : Nat), AV.undef), ((41 : Nat), AV.undef), ((42 : Nat), AV.undef), ((43 : Nat), AV.undef)] [])))))) (Tree.ite (decide ((1000 : Int) < (↑(List.length b) : Int))) (Tree.leaf (Leaf2.ret [AV.int IntKind.i64 (14 : Int)] [])) (Tree.leaf (Leaf2.ret [AV.int IntKind.i64 (0 : Int)] [])))) (by kernel_rfl) ?_
    simp only [Tree.holds, Leafs2, inR, lo, hi, Int.toNat_natCast, Bool.cond_eq_ite]
    refine ⟨fun hlt => ?_, fun hge => ⟨fun hbig => ?_, fun hsm => ?_⟩⟩
    · have hlt : i < b.length := by simp at hlt; omega
      refine ⟨by omega, fun _ => ⟨fun _ => by omega, fun _ => ⟨fun hbad => ?_, fun hgood => ⟨by omega, fun _ => ?_⟩⟩⟩⟩
      · have hnd : isD (b.getD i 0) = false := by
          rw [dig_test] at hbad
          simpa using hbad
        have hnf : formB neg b = false := by
          have : b.all isD = false := by
            rw [List.all_eq_false]
            refine ⟨b.getD i 0, by simp [List.getD, hlt], by simpa using hnd⟩
          simp [formB, this]
        rw [hnf] at hq
        exact RetR.scal hq rfl (by simp [resV])
      · have hd : isD (b.getD i 0) = true := by
          rw [dig_test] at hgood
          simpa using hgood
        rw [if_pos trivial]
        refine ⟨⟨i + 1, hlt, fun j hj => ?_⟩, by show b.length - (i + 1) < b.length - i; omega, by simp [SCk], by simp, by kernel_rfl, Nat.zero_le _⟩
        rcases Nat.lt_or_ge j i with h | h
        · exact hid j h
        · have : j = i := by omega
          subst this; exact hd
    all_goals
      have hge : i = b.length := by simp at hge; omega
      have hall : b.all isD = true := by
        rw [List.all_eq_true]
        intro c hc
        obtain ⟨j, hj, rfl⟩ := List.getElem_of_mem hc
        have := hid j (by omega)
        simpa [List.getD, hj] using this
      rw [hf hall] at hq
    · rw [if_pos rfl, if_pos (by simp at hbig; omega)] at hq
      exact RetR.scal hq rfl (by simp [resV])
    · rw [if_pos rfl, if_neg (by simp at hsm; omega)] at hq
      exact RetR.scal hq rfl (by simp [resV])
theorem check_ok : CtrOK Try.prog 42 checkC := by
  refine fn_ctrP (fn := Try.f42) (c := Try.f42.body.getD .skip) rfl rfl rfl fun s hs O w0 Q hq => ?_
  replace hq := hq _ rfl
  refine SafeK.run (k := K42) hmix noG_ok [3, 31, 32, 40, 41, 42, 43] 400 (T := Tree.side (decide ((0 : Int) < (↑(List.length s) : Int)) = true → (0 : Int) ≤ (0 : Int) ∧ (0 : Int) < (↑(List.length s) : Int)) (Tree.ite (bif decide ((0 : Int) < (↑(List.length s) : Int)) then decide ((↑(UInt8.toNat (List.getD s (0 : Nat) (0 : UInt8))) : Int) = (45 : Int)) else false) (Tree.side ((0 : Int) ≤ (1 : Int) ∧ (1 : Int) ≤ (↑(List.length s) : Int)) (Tree.ite (decide (List.drop (1 : Nat) (List.take (List.length s) s) = Array.toList #[(48 : UInt8)])) (Tree.leaf (Leaf2.ret [AV.int IntKind.i64 (12 : Int)] [])) (Tree.side (decide (List.drop (1 : Nat) (List.take (List.length s) s) = Array.toList #[]) = false → (0 : Int) ≤ (0 : Int) ∧ (0 : Int) < (↑(List.length (List.drop (1 : Nat) (List.take (List.length s) s))) : Int)) (Tree.ite (bif decide (List.drop (1 : Nat) (List.take (List.length s) s) = Array.toList #[]) then true else bif decide ((↑(UInt8.toNat (List.getD (List.drop (1 : Nat) (List.take (List.length s) s)) (0 : Nat) (0 : UInt8))) : Int) = (48 : Int)) then decide ((1 : Int) < (↑(List.length (List.drop (1 : Nat) (List.take (List.length s) s))) : Int)) else false) (Tree.leaf (Leaf2.ret [AV.int IntKind.i64 (12 : Int)] [])) (Tree.leaf (Leaf2.loop (Prod.fst (lps K42 (0 : Nat))) (Prod.snd (lps K42 (0 : Nat))) [((3 : Nat), AV.str (List.drop (1 : Nat) (List.take (List.length s) s))), ((31 : Nat), AV.int IntKind.i64 (↑(List.length (List.drop (1 : Nat) (List.take (List.length s) s))) : Int)), ((32 : Nat), AV.int IntKind.i64 (0 : Int)), ((40 : Nat), AV.undef), ((41 : Nat), AV.undef), ((42 : Nat), AV.undef), ((43 : Nat), AV.undef)] [])))))) (Tree.side (decide (s = Array.toList #[]) = false → (0 : Int) ≤ (0 : Int) ∧ (0 : Int) < (↑(List.length s) : Int)) (Tree.ite (bif decide (s = Array.toList #[]) then true else bif decide ((↑(UInt8.toNat (List.getD s (0 : Nat) (0 : UInt8))) : Int) = (48 : Int)) then decide ((1 : Int) < (↑(List.length s) : Int)) else false) (Tree.leaf (Leaf2.ret [AV.int IntKind.i64 (12 : Int)] [])) (Tree.leaf (Leaf2.loop (Prod.fst (lps K42 (0 : Nat))) (Prod.snd (lps K42 (0 : Nat))) [((3 : Nat), AV.str s), ((31 : Nat), AV.int IntKind.i64 (↑(List.length s) : Int)), ((32 : Nat), AV.int IntKind.i64 (0 : Int)), ((40 : Nat), AV.undef), ((41 : Nat), AV.undef), ((42 : Nat), AV.undef), ((43 : Nat), AV.undef)] [])))))) (by kernel_rfl) ?_
  simp only [Tree.holds, Leafs2, inR, lo, hi, Bool.cond_eq_ite]
  cases s with
  | nil =>
    simp only [errI, parse, formB] at hq
    refine ⟨by simp, fun _ => ⟨fun h => by simp at h, fun _ => ⟨by simp, fun _ => ⟨fun _ => ?_, fun h => by simp at h⟩⟩⟩⟩
    exact RetR.scal hq rfl (by simp [resV])
  | cons c b =>
    refine ⟨by simp, fun _ => ⟨fun h => ?_, fun h => ?_⟩⟩
    · have hc : c = 45 := by
        simp at h
        have : c.toNat = 45 := by omega
        exact UInt8.toNat_inj.1 this
      subst hc
      have hp : parse (45 :: b) = (true, b) := rfl
      have hd : List.drop 1 (List.take (45 :: b).length (45 :: b)) = b := by simp
      rw [hd]
      simp only [errI, hp] at hq
      refine ⟨by simp; omega, fun _ => ⟨fun h0 => ?_, fun h0 => ⟨fun hne => ?_, fun _ => ⟨fun hbad => ?_, fun hgood => ?_⟩⟩⟩⟩
      · have hb : b = [48] := by simpa using h0
        subst hb
        exact RetR.scal hq rfl rfl
      · have : b ≠ [] := by simpa using hne
        have := List.length_pos_iff.2 this
        omega
      · have hnf : formB true b = false := by
          by_cases hb : b = []
          · subst hb; rfl
          · rw [if_neg (by simpa using hb)] at hbad
            split at hbad
            · rename_i h48
              have : b.getD 0 0 = 48 := u8_eq (of_decide_eq_true h48)
              have hl : 1 < b.length := by simp at hbad; omega
              exact formB_zero this hl
            · cases hbad
        rw [hnf] at hq
        exact RetR.scal hq rfl (by simp [resV])
      · have hf : b.all isD = true → formB true b = true := by
          intro hall
          have hb : b ≠ [] := by
            intro hb; subst hb; simp at hgood
          have hb2 : b ≠ [48] := by simpa using h0
          rw [if_neg (by simpa using hb)] at hgood
          have h3 : ¬ (b.getD 0 0 = 48 ∧ 1 < b.length) := by
            rintro ⟨g1, g2⟩
            rw [g1] at hgood
            rw [if_pos (by decide)] at hgood
            simp at hgood; omega
          simp only [formB, hall, hb, hb2, Bool.and_true]
          simp only [decide_false, Bool.not_false, Bool.and_false, Bool.true_and, Bool.not_eq_true', Bool.and_eq_false_iff, decide_eq_false_iff_not]
          by_cases g1 : b.getD 0 0 = 48
          · exact .inr fun g2 => h3 ⟨g1, g2⟩
          · exact .inl g1
        exact check_loop b (by simp at hs; omega) hf hq
    · have hc : c ≠ 45 := by
        rintro rfl
        simp at h
      have hp : parse (c :: b) = (false, c :: b) := by simp [parse, hc]
      simp only [errI, hp] at hq
      obtain ⟨s, hs'⟩ : ∃ s, c :: b = s := ⟨_, rfl⟩
      have hne : s ≠ [] := by rw [← hs']; simp
      rw [hs'] at hq hs ⊢
      refine ⟨fun _ => ⟨by omega, by have := List.length_pos_iff.2 hne; omega⟩, fun _ => ⟨fun hbad => ?_, fun hgood => ?_⟩⟩
      · have hnf : formB false s = false := by
          rw [if_neg (by simpa using hne)] at hbad
          split at hbad
          · rename_i h48
            have : s.getD 0 0 = 48 := u8_eq (of_decide_eq_true h48)
            have hl : 1 < s.length := by simp at hbad; omega
            exact formB_zero this hl
          · cases hbad
        rw [hnf] at hq
        exact RetR.scal hq rfl (by simp [resV])
      · have hf : s.all isD = true → formB false s = true := by
          intro hall
          rw [if_neg (by simpa using hne)] at hgood
          have h3 : ¬ (s.getD 0 0 = 48 ∧ 1 < s.length) := by
            rintro ⟨g1, g2⟩
            rw [g1] at hgood
            rw [if_pos (by decide)] at hgood
            simp at hgood; omega
          simp only [formB, hall, hne, Bool.and_true]
          simp only [decide_false, Bool.not_false, Bool.false_and, Bool.true_and, Bool.not_eq_true', Bool.and_eq_false_iff, decide_eq_false_iff_not]
          by_cases g1 : s.getD 0 0 = 48
          · exact .inr fun g2 => h3 ⟨g1, g2⟩
          · exact .inl g1
        exact check_loop s hs hf hq

def numV (neg : Bool) (x : Nat) : AV := .agg [.bool neg, magS x]
def pairC : Ctr := ctrP false (fun p : List UInt8 × List UInt8 => [.str p.1, .str p.2]) (fun p => p.1.length < 2 ^ 62 ∧ p.2.length < 2 ^ 62) (fun p (r : Int × (Bool × Nat) × (Bool × Nat)) => r = if errI2 p.1 p.2 = 0 then (0, (negI p.1, numI p.1), (negI p.2, numI p.2)) else (errI2 p.1 p.2, (false, 0), (false, 0)))
  (fun _ r => (.tup [numV r.2.1.1 r.2.1.2, numV r.2.2.1 r.2.2.2, .int .i64 r.1], []))
def G5 : Nat → Option Ctr := fun f => if f = 42 then some checkC else if f = 72 then some readC else none
theorem G5_ok : ∀ g c, G5 g = some c → CtrOK Try.prog g c := by
  intro g c h
  simp only [G5] at h
  split at h
  · rename_i hg; subst hg; cases h; exact check_ok
  split at h
  · rename_i hg; subst hg; cases h; exact read_ok
  cases h

theorem canon0 : canon 0 = [] := by simp [canon]
theorem pair_ok : CtrOK Try.prog 58 pairC := by
  refine fn_ctrP (fn := Try.f58) (c := Try.f58.body.getD .skip) rfl rfl rfl fun p hp O w0 Q hq => ?_
  obtain ⟨s, t⟩ := p
  obtain ⟨hs, ht⟩ := hp
  replace hq := hq _ rfl
  simp only at hs ht hq
  refine SafeK.run (k := K58) hmix G5_ok [] 400 (T := Tree.ex (fun (x : List UInt8) => eqL [AV.str s] [AV.str x] ∧ List.length x < (4611686018427387904 : Nat)) fun (n : List UInt8) => Tree.all (fun (r : Int) => r = errI n) fun (n : Int) => Tree.ite (decide (n = (0 : Int))) (Tree.ex (fun (x : List UInt8) => eqL [AV.str t] [AV.str x] ∧ List.length x < (4611686018427387904 : Nat)) fun (n : List UInt8) => Tree.all (fun (r : Int) => r = errI n) fun (n : Int) => Tree.ite (!decide (n = (0 : Int))) (Tree.leaf (Leaf2.ret [AV.agg [AV.bool false, AV.nils], AV.agg [AV.bool false, AV.nils], AV.int IntKind.i64 n] [Blk.box [AV.bool false, AV.nils], Blk.box [AV.bool false, AV.nils]])) (Tree.ex (fun (x : Bool × List UInt8) => eqL [AV.str s] [AV.str (sgn (Prod.fst x) (Prod.snd x))] ∧ allD (Prod.snd x) ∧ Prod.snd x ≠ [] ∧ List.length (Prod.snd x) ≤ (1000000 : Nat)) fun (n : Bool × List UInt8) => Tree.all (fun (r : Nat) => r = numD (Prod.snd n)) fun (n_1 : Nat) => Tree.ex (fun (x : Bool × List UInt8) => eqL [AV.str t] [AV.str (sgn (Prod.fst x) (Prod.snd x))] ∧ allD (Prod.snd x) ∧ Prod.snd x ≠ [] ∧ List.length (Prod.snd x) ≤ (1000000 : Nat)) fun (n_2 : Bool × List UInt8) => Tree.all (fun (r : Nat) => r = numD (Prod.snd n_2)) fun (n_3 : Nat) => Tree.leaf (Leaf2.ret [AV.agg [AV.bool (Prod.fst n), AV.sl (List.length (canon n_1)) (1 : Nat) (natG IntKind.u32 (canon n_1))], AV.agg [AV.bool (Prod.fst n_2), AV.sl (List.length (canon n_3)) (1 : Nat) (natG IntKind.u32 (canon n_3))], AV.int IntKind.i64 (0 : Int)] [Blk.box [AV.bool (Prod.fst n), AV.sl (List.length (canon n_1)) (1 : Nat) (natG IntKind.u32 (canon n_1))], Blk.box [AV.bool (Prod.fst n_2), AV.sl (List.length (canon n_3)) (1 : Nat) (natG IntKind.u32 (canon n_3))]]))) (Tree.ite (!decide (n = (0 : Int))) (Tree.leaf (Leaf2.ret [AV.agg [AV.bool false, AV.nils], AV.agg [AV.bool false, AV.nils], AV.int IntKind.i64 n] [Blk.box [AV.bool false, AV.nils], Blk.box [AV.bool false, AV.nils]])) (Tree.ex (fun (x : Bool × List UInt8) => eqL [AV.str s] [AV.str (sgn (Prod.fst x) (Prod.snd x))] ∧ allD (Prod.snd x) ∧ Prod.snd x ≠ [] ∧ List.length (Prod.snd x) ≤ (1000000 : Nat)) fun (n : Bool × List UInt8) => Tree.all (fun (r : Nat) => r = numD (Prod.snd n)) fun (n_1 : Nat) => Tree.ex (fun (x : Bool × List UInt8) => eqL [AV.str t] [AV.str (sgn (Prod.fst x) (Prod.snd x))] ∧ allD (Prod.snd x) ∧ Prod.snd x ≠ [] ∧ List.length (Prod.snd x) ≤ (1000000 : Nat)) fun (n_2 : Bool × List UInt8) => Tree.all (fun (r : Nat) => r = numD (Prod.snd n_2)) fun (n_3 : Nat) => Tree.leaf (Leaf2.ret [AV.agg [AV.bool (Prod.fst n), AV.sl (List.length (canon n_1)) (1 : Nat) (natG IntKind.u32 (canon n_1))], AV.agg [AV.bool (Prod.fst n_2), AV.sl (List.length (canon n_3)) (1 : Nat) (natG IntKind.u32 (canon n_3))], AV.int IntKind.i64 (0 : Int)] [Blk.box [AV.bool (Prod.fst n), AV.sl (List.length (canon n_1)) (1 : Nat) (natG IntKind.u32 (canon n_1))], Blk.box [AV.bool (Prod.fst n_2), AV.sl (List.length (canon n_3)) (1 : Nat) (natG IntKind.u32 (canon n_3))]])))) (by kernel_rfl) ?_
  have bad : ∀ h, errI2 s t ≠ 0 → RetR pairC 0 Q [.agg [.bool false, .nils], .agg [.bool false, .nils], .int .i64 (errI2 s t)] h := by
    intro h he
    rw [if_neg he] at hq
    refine RetR.out0 hq (fun h => by simp [pairC, ctrP] at h) ?_
    simp [resV, exp2, exp1, exp0, ren0, eqA2, eqL1, eqA, eqL0, eqA0, numV, magS, natS, canon0]
  have good : ∀ h, errI2 s t = 0 → RetR pairC 0 Q [.agg [.bool (negI s), magS (numI s)], .agg [.bool (negI t), magS (numI t)], .int .i64 0] h := by
    intro h he
    rw [if_pos he] at hq
    refine RetR.out0 hq (fun h => by simp [pairC, ctrP] at h) ?_
    simp [resV, exp2, exp1, exp0, ren0, eqA2, eqL1, eqA, eqL0, eqA0, numV, magS, natS, eqG_refl]
  have rd : ∀ u, errI u = 0 → eqL [AV.str u] [AV.str (sgn (negI u) (parse u).2)] ∧ allD (parse u).2 ∧ (parse u).2 ≠ [] ∧ (parse u).2.length ≤ 1000000 := by
    intro u hu
    obtain ⟨h1, h2, h3, h4⟩ := errI_sgn hu
    exact ⟨by simpa using h1, h2, h3, by omega⟩
  simp only [Tree.holds, Leafs2]
  refine ⟨s, ⟨by simp, by omega⟩, ?_⟩
  refine ⟨⟨_, rfl⟩, ?_⟩
  rintro _ rfl
  refine ⟨fun h1 => ?_, fun h1 => ?_⟩
  · have h1 : errI s = 0 := by simpa using h1
    refine ⟨t, ⟨by simp, by omega⟩, ?_⟩
    refine ⟨⟨_, rfl⟩, ?_⟩
    rintro _ rfl
    refine ⟨fun h2 => ?_, fun h2 => ?_⟩
    · have h2 : errI t ≠ 0 := by simpa using h2
      have e : errI2 s t = errI t := by simp [errI2, h1]
      rw [← e]
      exact bad _ (by rw [e]; exact h2)
    · have h2 : errI t = 0 := by simpa using h2
      refine ⟨(negI s, (parse s).2), rd s h1, ?_⟩
      refine ⟨⟨_, rfl⟩, ?_⟩
      rintro _ rfl
      refine ⟨(negI t, (parse t).2), rd t h2, ?_⟩
      refine ⟨⟨_, rfl⟩, ?_⟩
      rintro _ rfl
      exact good _ (errI2_zero.2 ⟨h1, h2⟩)
  · have h1 : errI s ≠ 0 := by simpa using h1
    have e : errI2 s t = errI s := by simp [errI2, h1]
    refine ⟨fun h2 => ?_, fun h2 => absurd (by simpa using h2) h1⟩
    rw [← e]
    exact bad _ (by rw [e]; exact h1)
def G6 : Nat → Option Ctr := fun f => if f = 58 then some pairC else if f = 59 then some divideC else if f = 60 then some writeC else none
theorem G6_ok : ∀ g c, G6 g = some c → CtrOK Try.prog g c := by
  intro g c h
  simp only [G6] at h
  split at h
  · rename_i hg; subst hg; cases h; exact pair_ok
  split at h
  · rename_i hg; subst hg; cases h; exact divide_ok
  split at h
  · rename_i hg; subst hg; cases h; exact write_ok
  cases h

def gcdC : Ctr := ctrP true (fun p : List UInt8 × List UInt8 => [.str p.1, .str p.2]) (fun p => p.1.length < 2 ^ 62 ∧ p.2.length < 2 ^ 62) (fun p r => r = gcdR p.1 p.2) (fun _ r => (.tup [.str r.1, .int .i64 r.2], []))
def SGc : KV := [(6, .ptr 0 0), (7, .ptr 1 0)]
def HGc (m n : Bool) (x y : Nat) : Heap := [.box [.bool m, magS x], .box [.bool n, magS y]]
theorem canon_small {x : Nat} : x < B ^ 112 ↔ (canon x).length ≤ 112 := by
  refine ⟨fun h => canon_length_le h, fun h => ?_⟩
  have h1 := val_lt (dig_canon x)
  rw [val_canon] at h1
  exact Nat.lt_of_lt_of_le h1 (Nat.pow_le_pow_right (by decide) h)
theorem canon_nil {x : Nat} : (canon x).length = 0 ↔ x = 0 := by
  constructor
  · intro h
    have := val_canon x
    rw [List.length_eq_zero_iff.1 h] at this
    exact this.symm
  · rintro rfl; simp [canon]
theorem gcd_ok : CtrOK Try.prog 43 gcdC := by
  refine fn_ctrP (fn := Try.f43) (c := Try.f43.body.getD .skip) rfl rfl rfl fun p hp O w0 Q hq => ?_
  obtain ⟨s, t⟩ := p
  obtain ⟨hs, ht⟩ := hp
  replace hq := hq _ rfl
  simp only at hs ht hq
  refine SafeK.run (k := K43) hmix G6_ok [6, 7] 400 (T := Tree.ex (fun (x : List UInt8 × List UInt8) => eqL [AV.str s, AV.str t] [AV.str (Prod.fst x), AV.str (Prod.snd x)] ∧ List.length (Prod.fst x) < (4611686018427387904 : Nat) ∧ List.length (Prod.snd x) < (4611686018427387904 : Nat)) fun (n : List UInt8 × List UInt8) => Tree.all (fun (r : Int × (Bool × Nat) × Bool × Nat) => r = if errI2 (Prod.fst n) (Prod.snd n) = (0 : Int) then ((0 : Int), (negI (Prod.fst n), numI (Prod.fst n)), negI (Prod.snd n), numI (Prod.snd n)) else (errI2 (Prod.fst n) (Prod.snd n), (false, (0 : Nat)), false, (0 : Nat))) fun (n : Int × (Bool × Nat) × Bool × Nat) => Tree.ite (!decide (Prod.fst n = (0 : Int))) (Tree.leaf (Leaf2.ret [AV.str (Array.toList #[]), AV.int IntKind.i64 (Prod.fst n)] [Blk.box [AV.bool (Prod.fst (Prod.fst (Prod.snd n))), AV.sl (List.length (canon (Prod.snd (Prod.fst (Prod.snd n))))) (1 : Nat) (natG IntKind.u32 (canon (Prod.snd (Prod.fst (Prod.snd n)))))], Blk.box [AV.bool (Prod.fst (Prod.snd (Prod.snd n))), AV.sl (List.length (canon (Prod.snd (Prod.snd (Prod.snd n))))) (1 : Nat) (natG IntKind.u32 (canon (Prod.snd (Prod.snd (Prod.snd n)))))]])) (Tree.leaf (Leaf2.loop (Prod.fst (lps K43 (0 : Nat))) (Prod.snd (lps K43 (0 : Nat))) [((6 : Nat), AV.ptr (0 : Nat) (0 : Nat)), ((7 : Nat), AV.ptr (1 : Nat) (0 : Nat))] [Blk.box [AV.bool (Prod.fst (Prod.fst (Prod.snd n))), AV.sl (List.length (canon (Prod.snd (Prod.fst (Prod.snd n))))) (1 : Nat) (natG IntKind.u32 (canon (Prod.snd (Prod.fst (Prod.snd n)))))], Blk.box [AV.bool (Prod.fst (Prod.snd (Prod.snd n))), AV.sl (List.length (canon (Prod.snd (Prod.snd (Prod.snd n))))) (1 : Nat) (natG IntKind.u32 (canon (Prod.snd (Prod.snd (Prod.snd n)))))]]))) (by kernel_rfl) ?_
  simp only [Tree.holds, Leafs2]
  refine ⟨(s, t), ⟨by simp, hs, ht⟩, ⟨_, rfl⟩, ?_⟩
  rintro _ rfl
  refine ⟨fun he => ?_, fun he => ?_⟩
  · have he : errI2 s t ≠ 0 := by
      intro h; simp [h] at he
    have e : gcdR s t = ([], errI2 s t) := by simp [gcdR, he]
    simp only [if_neg he]
    rw [e] at hq
    exact RetR.scal hq rfl (by simp [resV])
  · have he : errI2 s t = 0 := by
      refine Decidable.byContradiction fun h => ?_
      simp [h] at he
    simp only [if_pos he]
    have e : gcdR s t = wr false (Nat.gcd (numI s) (numI t)) := by simp [gcdR, he]
    rw [e] at hq
    obtain ⟨h1, h2⟩ := errI2_zero.1 he
    have b1 := canon_small.2 (numI_small h1)
    have b2 := canon_small.2 (numI_small h2)
    clear e he h1 h2 hs ht
    generalize numI s = x0 at *
    generalize numI t = y0 at *
    refine SafeK.loop (ι := {z : Bool × Bool × Nat × Nat // Nat.gcd z.2.2.1 z.2.2.2 = Nat.gcd x0 y0 ∧ z.2.2.1 < B ^ 112 ∧ z.2.2.2 < B ^ 112}) (fun _ => SGc) (fun z => HGc z.1.1 z.1.2.1 z.1.2.2.1 z.1.2.2.2) (fun z => z.1.2.2.2) ⟨(negI s, negI t, x0, y0), rfl, b1, b2⟩ 0 ?_ ?_ (by kernel_rfl)
    · exact ⟨by simp [SGc], by simp [HGc, magS, natS, eqG_refl], by kernel_rfl, Nat.zero_le _⟩
    · rintro ⟨⟨m, n, x, y⟩, hg, hx, hy⟩
      simp only at hg hx hy
      refine SafeK.run (k := inside K43 0) hmix G6_ok [6, 7] 400 (T := Tree.ite (decide ((0 : Int) < (↑(List.length (canon y)) : Int))) (Tree.ex (fun (x_1 : Nat × Nat) => eqL [AV.sl (List.length (canon x)) (1 : Nat) (natG IntKind.u32 (canon x)), AV.sl (List.length (canon y)) (1 : Nat) (natG IntKind.u32 (canon y))] [AV.sl (List.length (canon (Prod.fst x_1))) (1 : Nat) (natG IntKind.u32 (canon (Prod.fst x_1))), AV.sl (List.length (canon (Prod.snd x_1))) (1 : Nat) (natG IntKind.u32 (canon (Prod.snd x_1)))] ∧ List.length (canon (Prod.fst x_1)) < (100000 : Nat) ∧ List.length (canon (Prod.snd x_1)) < (100000 : Nat) ∧ (0 : Nat) < Prod.snd x_1) fun (n_1 : Nat × Nat) => Tree.all (fun (r : Nat × Nat) => r = (Prod.fst n_1 / Prod.snd n_1, Prod.fst n_1 % Prod.snd n_1)) fun (n_2 : Nat × Nat) => Tree.leaf (Leaf2.back (0 : Nat) [((6 : Nat), AV.ptr (0 : Nat) (0 : Nat)), ((7 : Nat), AV.ptr (1 : Nat) (0 : Nat))] [Blk.box [AV.bool m, AV.sl (List.length (canon y)) (1 : Nat) (natG IntKind.u32 (canon y))], Blk.box [AV.bool n, AV.sl (List.length (canon (Prod.snd n_2))) (1 : Nat) (natG IntKind.u32 (canon (Prod.snd n_2)))]])) (Tree.ex (fun (x_1 : Bool × Nat) => eqL [AV.agg [AV.bool false, AV.sl (List.length (canon x)) (1 : Nat) (natG IntKind.u32 (canon x))]] [AV.agg [AV.bool (Prod.fst x_1), AV.sl (List.length (canon (Prod.snd x_1))) (1 : Nat) (natG IntKind.u32 (canon (Prod.snd x_1)))]] ∧ List.length (canon (Prod.snd x_1)) < (1000000 : Nat)) fun (n_1 : Bool × Nat) => Tree.all (fun (r : List UInt8 × Int) => r = wr (Prod.fst n_1) (Prod.snd n_1)) fun (n_2 : List UInt8 × Int) => Tree.leaf (Leaf2.ret [AV.str (Prod.fst n_2), AV.int IntKind.i64 (Prod.snd n_2)] [Blk.box [AV.bool m, AV.sl (List.length (canon x)) (1 : Nat) (natG IntKind.u32 (canon x))], Blk.box [AV.bool n, AV.sl (List.length (canon y)) (1 : Nat) (natG IntKind.u32 (canon y))]]))) (by kernel_rfl) ?_
      simp only [Tree.holds, Leafs2, inR, lo, hi]
      refine ⟨fun h0 => ?_, fun h0 => ?_⟩
      · have hy0 : 0 < y := by
          rcases Nat.eq_zero_or_pos y with h | h
          · rw [h] at h0; simp [canon] at h0
          · exact h
        refine ⟨(x, y), ⟨by simp [eqG_refl], ?_, ?_, hy0⟩, ⟨_, rfl⟩, ?_⟩
        · have := canon_small.1 hx; show (canon x).length < 100000; omega
        · have := canon_small.1 hy; show (canon y).length < 100000; omega
        rintro _ rfl
        simp only
        rw [if_pos trivial]
        refine ⟨⟨(m, n, y, x % y), ?_, hy, Nat.lt_trans (Nat.mod_lt x hy0) hy⟩, Nat.mod_lt x hy0, by simp [SGc], by simp [HGc, magS, natS, eqG_refl], by kernel_rfl, Nat.zero_le _⟩
        show Nat.gcd y (x % y) = Nat.gcd x0 y0
        rw [← hg, Nat.gcd_comm x y, Nat.gcd_rec y x, Nat.gcd_comm]
      · have hy0 : y = 0 := canon_nil.1 (by have h0 := of_decide_eq_false h0; omega)
        subst hy0
        refine ⟨(false, x), ⟨by simp [eqG_refl], ?_⟩, ⟨_, rfl⟩, ?_⟩
        · have := canon_small.1 hx; show (canon x).length < 1000000; omega
        rintro _ rfl
        rw [Nat.gcd_zero_right] at hg
        rw [← hg] at hq
        exact RetR.scal hq rfl (by simp [resV])
end Go.Proofs.Try
end

/- The reference's integers: digits and comparing. -/
section
set_option linter.unusedVariables false
set_option linter.unusedSimpArgs false
set_option maxRecDepth 100000
open Go Go.Sx Go.Proofs Go.Nov
namespace Go.Proofs.Try
attribute [local simp] eqKV eqA eqA0 eqH eqB eqL eqL0
noncomputable def K88 : List Go.Sx.Item := [.code (Try.f88.body.getD .skip)]
noncomputable def K82 : List Go.Sx.Item := [.code (Try.f82.body.getD .skip)]
noncomputable def K83 : List Go.Sx.Item := [.code (Try.f83.body.getD .skip)]

theorem exp0_own {h : Heap} {i sz off n n' : Nat} {g : Nat → Nat → AV} (hb : h[i]? = some (.arr n' sz g)) (hn : off + n ≤ n') : exp0 h [] (.osl i sz off n) = .sl n sz (viewG g off) := by
  simp [exp0, posIn, frz1, seqOf, hb, hn]
theorem new0_own {h : Heap} {i sz off n n' : Nat} {g : Nat → Nat → AV} (hb : h[i]? = some (.arr n' sz g)) (hn : off + n ≤ n') (hs : ∀ j o, j < n → o < sz → scalA (viewG g off j o) = true) : new0 h [] (.osl i sz off n) := by
  simp only [new0]
  intro _
  rw [exp0_own hb hn]
  exact hs
theorem scal_nat (k : IntKind) (l : List Nat) (off j o : Nat) : scalA (viewG (natG k l) off j o) = true := by
  simp [viewG, natG, scalA]
theorem view0 (g : Nat → Nat → AV) : viewG g 0 = g := by
  funext j o; simp [viewG]
/-- An own slice of numbers, handed over as the result. -/
theorem RetR.nats {ctr : Ctr} {Q : AV × Heap → Prop} {h : Heap} {i : Nat} {k : IntKind} {l : List Nat} (hq : Q (natS k l, [])) (hb : h[i]? = some (.arr l.length 1 (natG k l))) : RetR ctr 0 Q [.osl i 1 0 l.length] h := by
  refine RetR.out0 hq (fun _ => ?_) ?_
  · exact new0_own hb (by omega) fun j o _ _ => scal_nat _ _ _ _ _
  · have e : exp2 h [] (resV [.osl i 1 0 l.length]) = exp0 h [] (.osl i 1 0 l.length) := rfl
    rw [e, exp0_own hb (by omega), view0]
    simp [eqA2, natS, eqG_refl]
abbrev nat6 (l : List Nat) : AV := natS .i64 l
def atC : Ctr := ctrP true (fun p : List Nat × Nat => [nat6 p.1, .int .i64 (p.2 : Int)]) (fun p => True) (fun p r => r = p.1.getD p.2 0) (fun _ (r : Nat) => (.int .i64 (r : Int), []))

theorem at_ok : CtrOK Try.prog 88 atC := by
  refine fn_ctrP (fn := Try.f88) (c := Try.f88.body.getD .skip) rfl rfl rfl fun p hp O w0 Q hq => ?_
  obtain ⟨l, i⟩ := p
  replace hq := hq _ rfl
  simp only at hq
  refine SafeK.run (k := K88) hmix noG_ok [] 400 (T := Tree.ite (decide ((↑i : Int) < (↑(List.length l) : Int))) (Tree.side ((0 : Int) ≤ (↑i : Int) ∧ (↑i : Int) < (↑(List.length l) : Int)) (Tree.leaf (Leaf2.ret [AV.int IntKind.i64 (↑(List.getD l (Int.toNat (↑i : Int)) (0 : Nat)) : Int)] []))) (Tree.leaf (Leaf2.ret [AV.int IntKind.i64 (0 : Int)] []))) (by kernel_rfl) ?_
  simp only [Tree.holds, Leafs2, inR, lo, hi, Int.toNat_natCast]
  refine ⟨fun h => ?_, fun h => ?_⟩
  · have h : i < l.length := by have := of_decide_eq_true h; omega
    exact ⟨by omega, fun _ => RetR.scal hq rfl (by simp [resV])⟩
  · have h : l.length ≤ i := by have := of_decide_eq_false h; omega
    rw [getD_out h] at hq
    exact RetR.scal hq rfl (by simp [resV])
def greaterC : Ctr := ctrP true (fun p : List Nat × List Nat => [nat6 p.1, nat6 p.2]) (fun p => Ten.dig p.1 ∧ Ten.dig p.2 ∧ p.1.length < 2 ^ 62 ∧ p.2.length < 2 ^ 62) (fun p r => r = cmpN (Ten.val p.1) (Ten.val p.2)) (fun _ (r : Int) => (.int .i64 r, []))
def SGr (l m : List Nat) (i : Nat) : KV := [(0, nat6 l), (1, nat6 m), (5, .int .i64 ((i : Int) - 1))]
def GR : Nat → Option Ctr := fun f => if f = 88 then some atC else none
theorem GR_ok : ∀ g c, GR g = some c → CtrOK Try.prog g c := by
  intro g c h
  simp only [GR] at h
  split at h
  · rename_i hg; subst hg; cases h; exact at_ok
  cases h

theorem greater_ok : CtrOK Try.prog 82 greaterC := by
  refine fn_ctrP (fn := Try.f82) (c := Try.f82.body.getD .skip) rfl rfl rfl fun p hp O w0 Q hq => ?_
  obtain ⟨l, m⟩ := p
  obtain ⟨hl, hm, hll, hml⟩ := hp
  replace hq := hq _ rfl
  simp only at hq hl hm hll hml
  refine SafeK.run (k := K82) hmix GR_ok [0, 1, 5] 400 (T := Tree.side (inR IntKind.i64 (max (↑(List.length l) : Int) (↑(List.length m) : Int) - (1 : Int))) (Tree.leaf (Leaf2.loop (Prod.fst (lps K82 (0 : Nat))) (Prod.snd (lps K82 (0 : Nat))) [((0 : Nat), AV.sl (List.length l) (1 : Nat) (natG IntKind.i64 l)), ((1 : Nat), AV.sl (List.length m) (1 : Nat) (natG IntKind.i64 m)), ((5 : Nat), AV.int IntKind.i64 (max (↑(List.length l) : Int) (↑(List.length m) : Int) - (1 : Int)))] []))) (by kernel_rfl) ?_
  simp only [Tree.holds, Leafs2, inR, lo, hi, Int.toNat_natCast]
  refine ⟨by omega, fun _ => ?_⟩
  refine SafeK.loop (ι := {i : Nat // i ≤ max l.length m.length ∧ ∀ j, i ≤ j → l.getD j 0 = m.getD j 0}) (fun i => SGr l m i.1) (fun _ => []) (fun i => i.1) ⟨max l.length m.length, Nat.le_refl _, fun j hj => by rw [getD_out (by omega), getD_out (by omega)]⟩ 0 ?_ ?_ (by kernel_rfl)
  · exact ⟨by simp [SGr, natS, eqG_refl]; omega, by simp, by kernel_rfl, Nat.zero_le _⟩
  · rintro ⟨i, hil, hie⟩
    refine SafeK.run (k := inside K82 0) hmix GR_ok [0, 1, 5] 400 (T := Tree.ite (decide ((0 : Int) ≤ (↑i : Int) - (1 : Int))) (Tree.ex (fun (x : List Nat × Nat) => eqL [AV.sl (List.length l) (1 : Nat) (natG IntKind.i64 l), AV.int IntKind.i64 ((↑i : Int) - (1 : Int))] [AV.sl (List.length (Prod.fst x)) (1 : Nat) (natG IntKind.i64 (Prod.fst x)), AV.int IntKind.i64 (↑(Prod.snd x) : Int)] ∧ True) fun (n : List Nat × Nat) => Tree.all (fun (r : Nat) => r = List.getD (Prod.fst n) (Prod.snd n) (0 : Nat)) fun (n : Nat) => Tree.ex (fun (x : List Nat × Nat) => eqL [AV.sl (List.length m) (1 : Nat) (natG IntKind.i64 m), AV.int IntKind.i64 ((↑i : Int) - (1 : Int))] [AV.sl (List.length (Prod.fst x)) (1 : Nat) (natG IntKind.i64 (Prod.fst x)), AV.int IntKind.i64 (↑(Prod.snd x) : Int)] ∧ True) fun (n_1 : List Nat × Nat) => Tree.all (fun (r : Nat) => r = List.getD (Prod.fst n_1) (Prod.snd n_1) (0 : Nat)) fun (n_2 : Nat) => Tree.ite (!decide ((↑n : Int) = (↑n_2 : Int))) (Tree.ex (fun (x : List Nat × Nat) => eqL [AV.sl (List.length l) (1 : Nat) (natG IntKind.i64 l), AV.int IntKind.i64 ((↑i : Int) - (1 : Int))] [AV.sl (List.length (Prod.fst x)) (1 : Nat) (natG IntKind.i64 (Prod.fst x)), AV.int IntKind.i64 (↑(Prod.snd x) : Int)] ∧ True) fun (n : List Nat × Nat) => Tree.all (fun (r : Nat) => r = List.getD (Prod.fst n) (Prod.snd n) (0 : Nat)) fun (n : Nat) => Tree.ex (fun (x : List Nat × Nat) => eqL [AV.sl (List.length m) (1 : Nat) (natG IntKind.i64 m), AV.int IntKind.i64 ((↑i : Int) - (1 : Int))] [AV.sl (List.length (Prod.fst x)) (1 : Nat) (natG IntKind.i64 (Prod.fst x)), AV.int IntKind.i64 (↑(Prod.snd x) : Int)] ∧ True) fun (n_3 : List Nat × Nat) => Tree.all (fun (r : Nat) => r = List.getD (Prod.fst n_3) (Prod.snd n_3) (0 : Nat)) fun (n_4 : Nat) => Tree.ite (decide ((↑n_4 : Int) < (↑n : Int))) (Tree.leaf (Leaf2.ret [AV.int IntKind.i64 (1 : Int)] [])) (Tree.leaf (Leaf2.ret [AV.int IntKind.i64 (-1 : Int)] []))) (Tree.side (inR IntKind.i64 ((↑i : Int) - (1 : Int) - (1 : Int))) (Tree.leaf (Leaf2.back (0 : Nat) [((0 : Nat), AV.sl (List.length l) (1 : Nat) (natG IntKind.i64 l)), ((1 : Nat), AV.sl (List.length m) (1 : Nat) (natG IntKind.i64 m)), ((5 : Nat), AV.int IntKind.i64 ((↑i : Int) - (1 : Int) - (1 : Int)))] [])))) (Tree.leaf (Leaf2.ret [AV.int IntKind.i64 (0 : Int)] []))) (by kernel_rfl) ?_
    simp only [Tree.holds, Leafs2, inR, lo, hi, Int.toNat_natCast]
    refine ⟨fun hlt => ?_, fun hge => ?_⟩
    · have hlt : 0 < i := by have := of_decide_eq_true hlt; omega
      have e : (i : Int) - 1 = ((i - 1 : Nat) : Int) := by omega
      refine ⟨(l, i - 1), ⟨by simp [eqG_refl, e], trivial⟩, ⟨_, rfl⟩, ?_⟩
      rintro _ rfl
      refine ⟨(m, i - 1), ⟨by simp [eqG_refl, e], trivial⟩, ⟨_, rfl⟩, ?_⟩
      rintro _ rfl
      simp only
      refine ⟨fun hne => ?_, fun heq => ⟨by omega, fun _ => ?_⟩⟩
      · have hne : l.getD (i - 1) 0 ≠ m.getD (i - 1) 0 := by
          intro h; rw [h] at hne; simp at hne
        have hab : ∀ j, i - 1 < j → l.getD j 0 = m.getD j 0 := fun j hj => hie j (by omega)
        refine ⟨(l, i - 1), ⟨by simp [eqG_refl, e], trivial⟩, ⟨_, rfl⟩, ?_⟩
        rintro _ rfl
        refine ⟨(m, i - 1), ⟨by simp [eqG_refl, e], trivial⟩, ⟨_, rfl⟩, ?_⟩
        rintro _ rfl
        simp only
        refine ⟨fun h => ?_, fun h => ?_⟩
        · have h : m.getD (i - 1) 0 < l.getD (i - 1) 0 := by have := of_decide_eq_true h; omega
          have hv := val_lt_at hm (fun j hj => (hab j hj).symm) h
          have : cmpN (Ten.val l) (Ten.val m) = 1 := by simp only [cmpN]; rw [if_neg (by omega), if_pos hv]
          rw [this] at hq
          exact RetR.scal hq rfl (by simp [resV])
        · have h : l.getD (i - 1) 0 < m.getD (i - 1) 0 := by have := of_decide_eq_false h; omega
          have hv := val_lt_at hl hab h
          have : cmpN (Ten.val l) (Ten.val m) = -1 := by simp only [cmpN]; rw [if_pos hv]
          rw [this] at hq
          exact RetR.scal hq rfl (by simp [resV])
      · have heq : l.getD (i - 1) 0 = m.getD (i - 1) 0 := by
          refine Decidable.byContradiction fun h => ?_
          have : ¬ ((l.getD (i - 1) 0 : Nat) : Int) = ((m.getD (i - 1) 0 : Nat) : Int) := by omega
          rw [decide_eq_false this] at heq; cases heq
        rw [if_pos trivial]
        refine ⟨⟨i - 1, by omega, fun j hj => ?_⟩, by show i - 1 < i; omega, by simp [SGr, natS, eqG_refl]; omega, by simp, by kernel_rfl, Nat.zero_le _⟩
        rcases Nat.lt_or_ge j i with h | h
        · have : j = i - 1 := by omega
          rw [this]; exact heq
        · exact hie j h
    · have hge : i = 0 := by have := of_decide_eq_false hge; omega
      subst hge
      have hv := val_eq_all hl hm fun j => hie j (Nat.zero_le _)
      have : cmpN (Ten.val l) (Ten.val m) = 0 := by simp only [cmpN]; rw [if_neg (by omega), if_neg (by omega)]
      rw [this] at hq
      exact RetR.scal hq rfl (by simp [resV])
def minusR (p : List Nat × List Nat) (r : List Nat) : Prop := r.length = p.1.length ∧ Ten.dig r ∧ Ten.val r + Ten.val p.2 = Ten.val p.1
def rminusC : Ctr := ctrP true (fun p : List Nat × List Nat => [nat6 p.1, nat6 p.2]) (fun p => Ten.dig p.1 ∧ Ten.dig p.2 ∧ p.1.length < 2 ^ 40 ∧ Ten.val p.2 ≤ Ten.val p.1) minusR (fun _ r => (nat6 r, []))
def SMi (l m o : List Nat) (b i : Nat) : KV := [(0, nat6 l), (1, nat6 m), (5, .osl 0 1 0 o.length), (6, .int .i64 (b : Int)), (7, .int .i64 (i : Int))]
theorem rminus_ok : CtrOK Try.prog 83 rminusC := by
  refine fn_ctrP (fn := Try.f83) (c := Try.f83.body.getD .skip) rfl rfl rfl fun p hp O w0 Q hq => ?_
  obtain ⟨l, m⟩ := p
  obtain ⟨hl, hm, hll, hml⟩ := hp
  simp only at hq hl hm hll hml
  refine SafeK.run (k := K83) hmix GR_ok [0, 1, 5, 6, 7] 400 (T := Tree.leaf (Leaf2.loop (Prod.fst (lps K83 (0 : Nat))) (Prod.snd (lps K83 (0 : Nat))) [((0 : Nat), AV.sl (List.length l) (1 : Nat) (natG IntKind.i64 l)), ((1 : Nat), AV.sl (List.length m) (1 : Nat) (natG IntKind.i64 m)), ((5 : Nat), AV.nils), ((6 : Nat), AV.int IntKind.i64 (0 : Int)), ((7 : Nat), AV.int IntKind.i64 (0 : Int))] [])) (by kernel_rfl) ?_
  simp only [Tree.holds, Leafs2, inR, lo, hi, Int.toNat_natCast]
  refine SafeK.bear 5 1 (natG .i64 []) rfl (by decide) (by kernel_rfl) ?_
  refine SafeK.loop (ι := {z : List Nat × Nat × Nat // z.1.length = z.2.2 ∧ z.2.2 ≤ l.length ∧ Ten.dig z.1 ∧ z.2.1 ≤ 1 ∧ Ten.val z.1 + Ten.val (m.take z.2.2) = Ten.val (l.take z.2.2) + 10 ^ z.2.2 * z.2.1}) (fun z => SMi l m z.1.1 z.1.2.1 z.1.2.2) (fun z => [.arr z.1.1.length 1 (natG .i64 z.1.1)]) (fun z => l.length - z.1.2.2) ⟨([], 0, 0), rfl, Nat.zero_le _, by simp [Ten.dig], Nat.zero_le _, by simp [Ten.val]⟩ 0 ?_ ?_ (by kernel_rfl)
  · refine ⟨by simp [SMi, natS, eqG_refl, setKV], by simp [eqG_refl], by kernel_rfl, Nat.zero_le _⟩
  · rintro ⟨⟨o, b, i⟩, hol, hil, hod, hb, hv⟩
    refine SafeK.run (k := inside K83 0) hmix GR_ok [0, 1, 5, 6, 7] 400 (T := Tree.ite (decide ((↑i : Int) < (↑(List.length l) : Int))) (Tree.side ((0 : Int) ≤ (↑i : Int) ∧ (↑i : Int) < (↑(List.length l) : Int)) (Tree.ex (fun (x : List Nat × Nat) => eqL [AV.sl (List.length m) (1 : Nat) (natG IntKind.i64 m), AV.int IntKind.i64 (↑i : Int)] [AV.sl (List.length (Prod.fst x)) (1 : Nat) (natG IntKind.i64 (Prod.fst x)), AV.int IntKind.i64 (↑(Prod.snd x) : Int)] ∧ True) fun (n : List Nat × Nat) => Tree.all (fun (r : Nat) => r = List.getD (Prod.fst n) (Prod.snd n) (0 : Nat)) fun (n : Nat) => Tree.side (inR IntKind.i64 ((↑(List.getD l (Int.toNat (↑i : Int)) (0 : Nat)) : Int) - (↑n : Int))) (Tree.side (inR IntKind.i64 ((↑(List.getD l (Int.toNat (↑i : Int)) (0 : Nat)) : Int) - (↑n : Int) - (↑b : Int))) (Tree.ite (decide ((↑(List.getD l (Int.toNat (↑i : Int)) (0 : Nat)) : Int) - (↑n : Int) - (↑b : Int) < (0 : Int))) (Tree.side (inR IntKind.i64 ((↑(List.getD l (Int.toNat (↑i : Int)) (0 : Nat)) : Int) - (↑n : Int) - (↑b : Int) + (10 : Int))) (Tree.side ((0 : Nat) = (0 : Nat) ∧ List.length o ≤ List.length o ∧ (List.length o + (1 : Nat)) * (8 : Nat) ≤ (140737488355328 : Nat)) (Tree.side (inR IntKind.i64 ((↑i : Int) + (1 : Int))) (Tree.leaf (Leaf2.back (0 : Nat) [((0 : Nat), AV.sl (List.length l) (1 : Nat) (natG IntKind.i64 l)), ((1 : Nat), AV.sl (List.length m) (1 : Nat) (natG IntKind.i64 m)), ((5 : Nat), AV.osl (0 : Nat) (1 : Nat) (0 : Nat) (List.length o + (1 : Nat))), ((6 : Nat), AV.int IntKind.i64 (1 : Int)), ((7 : Nat), AV.int IntKind.i64 ((↑i : Int) + (1 : Int)))] [Blk.arr (List.length o + (1 : Nat)) (1 : Nat) (appG (List.length o) (natG IntKind.i64 o) (viewG (listG (1 : Nat) [AV.int IntKind.i64 ((↑(List.getD l (Int.toNat (↑i : Int)) (0 : Nat)) : Int) - (↑n : Int) - (↑b : Int) + (10 : Int))]) (0 : Nat))), Blk.arr (1 : Nat) (1 : Nat) (listG (1 : Nat) [AV.int IntKind.i64 ((↑(List.getD l (Int.toNat (↑i : Int)) (0 : Nat)) : Int) - (↑n : Int) - (↑b : Int) + (10 : Int))])]))))) (Tree.side ((0 : Nat) = (0 : Nat) ∧ List.length o ≤ List.length o ∧ (List.length o + (1 : Nat)) * (8 : Nat) ≤ (140737488355328 : Nat)) (Tree.side (inR IntKind.i64 ((↑i : Int) + (1 : Int))) (Tree.leaf (Leaf2.back (0 : Nat) [((0 : Nat), AV.sl (List.length l) (1 : Nat) (natG IntKind.i64 l)), ((1 : Nat), AV.sl (List.length m) (1 : Nat) (natG IntKind.i64 m)), ((5 : Nat), AV.osl (0 : Nat) (1 : Nat) (0 : Nat) (List.length o + (1 : Nat))), ((6 : Nat), AV.int IntKind.i64 (0 : Int)), ((7 : Nat), AV.int IntKind.i64 ((↑i : Int) + (1 : Int)))] [Blk.arr (List.length o + (1 : Nat)) (1 : Nat) (appG (List.length o) (natG IntKind.i64 o) (viewG (listG (1 : Nat) [AV.int IntKind.i64 ((↑(List.getD l (Int.toNat (↑i : Int)) (0 : Nat)) : Int) - (↑n : Int) - (↑b : Int))]) (0 : Nat))), Blk.arr (1 : Nat) (1 : Nat) (listG (1 : Nat) [AV.int IntKind.i64 ((↑(List.getD l (Int.toNat (↑i : Int)) (0 : Nat)) : Int) - (↑n : Int) - (↑b : Int))])])))))))) (Tree.leaf (Leaf2.ret [AV.osl (0 : Nat) (1 : Nat) (0 : Nat) (List.length o)] [Blk.arr (List.length o) (1 : Nat) (natG IntKind.i64 o)]))) (by kernel_rfl) ?_
    simp only [Tree.holds, Leafs2, inR, lo, hi, Int.toNat_natCast]
    simp only at hol hil hod hb hv
    refine ⟨fun hlt => ?_, fun hge => ?_⟩
    · have hlt : i < l.length := by have := of_decide_eq_true hlt; omega
      refine ⟨by omega, fun _ => ?_⟩
      refine ⟨(m, i), ⟨by simp [eqG_refl], trivial⟩, ⟨_, rfl⟩, ?_⟩
      rintro _ rfl
      simp only
      have h1 : l.getD i 0 < 10 := Ten.getD_lt hl i
      have h2 : m.getD i 0 < 10 := Ten.getD_lt hm i
      have step : ∀ d b', d + m.getD i 0 + b = l.getD i 0 + 10 * b' → Ten.val (o ++ [d]) + Ten.val (m.take (i + 1)) = Ten.val (l.take (i + 1)) + 10 ^ (i + 1) * b' := by
        intro d b' h
        rw [Ten.val_append, Ten.val_take_succ, Ten.val_take_succ, hol, Nat.pow_succ]
        have := minus_step hv h
        simpa [Ten.val] using this
      obtain ⟨x, hx⟩ : ∃ x, l.getD i 0 = x := ⟨_, rfl⟩
      obtain ⟨y, hy⟩ : ∃ y, m.getD i 0 = y := ⟨_, rfl⟩
      simp only [hx, hy] at h1 h2 step ⊢
      iterate 2 refine ⟨by clear step; omega, fun _ => ?_⟩
      have ei : ((i : Int) + 1) = ((i + 1 : Nat) : Int) := by omega
      refine ⟨fun hneg => ?_, fun hpos => ?_⟩
      · have hneg : x < y + b := by have := of_decide_eq_true hneg; clear step; omega
        refine ⟨by clear step; omega, fun _ => ?_⟩
        refine ⟨⟨trivial, Nat.le_refl _, by clear step; omega⟩, fun _ => ⟨by clear step; omega, fun _ => ?_⟩⟩
        rw [if_pos trivial]
        obtain ⟨d, hd⟩ : ∃ d, d + y + b = x + 10 := ⟨x + 10 - y - b, by clear step; omega⟩
        have hd2 : (x : Int) - y - b + 10 = (d : Nat) := by clear step; omega
        refine ⟨⟨(o ++ [d], 1, i + 1), by simp [hol], hlt, Ten.dig_append.2 ⟨hod, by simp only [Ten.dig, List.mem_singleton]; rintro _ rfl; show _ < 10; clear step; omega⟩, Nat.le_refl _, step d 1 (by clear step; omega)⟩, by show l.length - (i + 1) < l.length - i; omega, ?_, heap_push hd2, by kernel_rfl, Nat.zero_le _⟩
        simp [SMi, natS, eqG_refl]
      · have hpos : y + b ≤ x := by have := of_decide_eq_false hpos; clear step; omega
        refine ⟨⟨trivial, Nat.le_refl _, by clear step; omega⟩, fun _ => ⟨by clear step; omega, fun _ => ?_⟩⟩
        rw [if_pos trivial]
        obtain ⟨d, hd⟩ : ∃ d, d + y + b = x := ⟨x - y - b, by clear step; omega⟩
        have hd2 : (x : Int) - y - b = (d : Nat) := by clear step; omega
        refine ⟨⟨(o ++ [d], 0, i + 1), by simp [hol], hlt, Ten.dig_append.2 ⟨hod, by simp only [Ten.dig, List.mem_singleton]; rintro _ rfl; show _ < 10; clear step; omega⟩, Nat.zero_le _, step d 0 (by clear step; omega)⟩, by show l.length - (i + 1) < l.length - i; omega, ?_, heap_push hd2, by kernel_rfl, Nat.zero_le _⟩
        simp [SMi, natS, eqG_refl]
    · have hge : i = l.length := by have := of_decide_eq_false hge; omega
      subst hge
      exact RetR.nats (hq o ⟨hol, hod, minus_end hl hod hol hml hv⟩) rfl
end Go.Proofs.Try
end

/- The reference's integers: texts. -/
section
set_option linter.unusedVariables false
set_option linter.unusedSimpArgs false
set_option maxRecDepth 100000
open Go Go.Sx Go.Proofs Go.Nov
namespace Go.Proofs.Try
attribute [local simp] eqKV eqA eqA0 eqH eqB eqL eqL0
noncomputable def K66 : List Go.Sx.Item := [.code (Try.f66.body.getD .skip)]
noncomputable def K68 : List Go.Sx.Item := [.code (Try.f68.body.getD .skip)]
noncomputable def K49 : List Go.Sx.Item := [.code (Try.f49.body.getD .skip)]

def zeroC : Ctr := ctrP true (fun l : List Nat => [nat6 l]) (fun l => Ten.dig l ∧ l.length < 2 ^ 62) (fun l r => r = decide (Ten.val l = 0)) (fun _ (r : Bool) => (.bool r, []))
def GR1 : Nat → Option Ctr := fun f => if f = 82 then some greaterC else none
theorem GR1_ok : ∀ g c, GR1 g = some c → CtrOK Try.prog g c := by
  intro g c h
  simp only [GR1] at h
  split at h
  · rename_i hg; subst hg; cases h; exact greater_ok
  cases h

theorem zero_ok : CtrOK Try.prog 66 zeroC := by
  refine fn_ctrP (fn := Try.f66) (c := Try.f66.body.getD .skip) rfl rfl rfl fun l hp O w0 Q hq => ?_
  obtain ⟨hl, hll⟩ := hp
  replace hq := hq _ rfl
  refine SafeK.run (k := K66) hmix GR1_ok [] 400 (T := Tree.ex (fun (x : List Nat × List Nat) => eqL [AV.sl (List.length l) (1 : Nat) (natG IntKind.i64 l), AV.nils] [AV.sl (List.length (Prod.fst x)) (1 : Nat) (natG IntKind.i64 (Prod.fst x)), AV.sl (List.length (Prod.snd x)) (1 : Nat) (natG IntKind.i64 (Prod.snd x))] ∧ Ten.dig (Prod.fst x) ∧ Ten.dig (Prod.snd x) ∧ List.length (Prod.fst x) < (4611686018427387904 : Nat) ∧ List.length (Prod.snd x) < (4611686018427387904 : Nat)) fun (n : List Nat × List Nat) => Tree.all (fun (r : Int) => r = cmpN (Ten.val (Prod.fst n)) (Ten.val (Prod.snd n))) fun (n : Int) => Tree.leaf (Leaf2.ret [AV.bool (decide (n = (0 : Int)))] [])) (by kernel_rfl) ?_
  simp only [Tree.holds, Leafs2]
  refine ⟨(l, []), ⟨by simp [eqG_refl], hl, by simp [Ten.dig], hll, by simp⟩, ⟨_, rfl⟩, ?_⟩
  rintro _ rfl
  have : decide (cmpN (Ten.val l) (Ten.val []) = 0) = decide (Ten.val l = 0) := by
    have e : Ten.val [] = 0 := rfl
    rw [e]
    by_cases h : Ten.val l = 0
    · rw [h]; rfl
    · have : cmpN (Ten.val l) 0 = 1 := by unfold cmpN; rw [if_neg (by omega), if_pos (by omega)]
      rw [this, decide_eq_false h]; rfl
  rw [← this] at hq
  exact RetR.scal hq rfl (by simp [resV])
def rtextC : Ctr := ctrP true (fun p : List Nat × Bool => [nat6 p.1, .bool p.2]) (fun p => Ten.dig p.1 ∧ p.1.length < 2 ^ 40) (fun p r => r = textR p.2 (Ten.val p.1)) (fun _ r => (.str r, []))
def STx (l : List Nat) (neg : Bool) (n : Nat) : KV := [(0, nat6 l), (1, .bool neg), (5, .int .i64 (n : Int)), (6, .undef), (7, .undef), (13, .undef), (14, .undef), (15, .undef), (16, .undef), (17, .undef), (18, .undef)]
def STy (l : List Nat) (neg : Bool) (n i : Nat) (b : List Nat) : KV := [(0, nat6 l), (1, .bool neg), (5, .int .i64 (n : Int)), (6, .osl 1 1 0 b.length), (7, .int .i64 ((i : Int) - 1)), (13, .undef), (14, .undef), (15, .undef), (16, .undef), (17, .undef), (18, .undef)]

theorem text_loop {O : Nat → Prop} {w0 : World} {Q : AV × Heap → Prop} {Hs : Nat → KV → Heap → Prop} (l : List Nat) (neg : Bool) (n : Nat) (hl : Ten.dig l) (hll : l.length < 2 ^ 40) (hn : n ≤ l.length) (ht : n = Ten.tlen l) (h0 : 0 < n) (hq : Q (.str (textR neg (Ten.val l)), [])) (kv : KV) (h : Heap)
    (hle : LeK 0 Try.f68.ntmps kv h (STy l neg n n (tbL l neg n n)) [.dead, .arr (tbL l neg n n).length 1 (natG .u8 (tbL l neg n n))]) :
    SafeK Try.prog Try.f68 O 0 w0 [] Hs (RetR rtextC 0 Q) (.code (.loop (lps (inside K68 0) 0).1) :: (lps (inside K68 0) 0).2) (mk Try.f68.ntmps kv h) := by
  refine SafeK.loop (ι := {i : Nat // i ≤ n}) (fun i => STy l neg n i.1 (tbL l neg n i.1)) (fun i => [.dead, .arr (tbL l neg n i.1).length 1 (natG .u8 (tbL l neg n i.1))]) (fun i => i.1) ⟨n, Nat.le_refl _⟩ 0 hle ?_ (by kernel_rfl)
  rintro ⟨i, hin⟩
  obtain ⟨b, hb⟩ : ∃ b, tbL l neg n i = b := ⟨_, rfl⟩
  have hbl := tbL_len l neg n i
  simp only [hb] at hbl ⊢
  refine SafeK.run (k := inside (inside K68 0) 0) hmix noG_ok [0, 1, 5, 6, 7, 13, 14, 15, 16, 17, 18] 400 (T := Tree.ite (decide ((0 : Int) ≤ (↑i : Int) - (1 : Int))) (Tree.side ((0 : Int) ≤ (↑i : Int) - (1 : Int) ∧ (↑i : Int) - (1 : Int) < (↑(List.length l) : Int)) (Tree.side (inR IntKind.i64 ((48 : Int) + (↑(List.getD l (Int.toNat ((↑i : Int) - (1 : Int))) (0 : Nat)) : Int))) (Tree.side (inR IntKind.u8 ((48 : Int) + (↑(List.getD l (Int.toNat ((↑i : Int) - (1 : Int))) (0 : Nat)) : Int))) (Tree.side ((0 : Nat) = (0 : Nat) ∧ List.length b ≤ List.length b ∧ (List.length b + (1 : Nat)) * (1 : Nat) ≤ (140737488355328 : Nat)) (Tree.side (inR IntKind.i64 ((↑i : Int) - (1 : Int) - (1 : Int))) (Tree.leaf (Leaf2.back (0 : Nat) [((0 : Nat), AV.sl (List.length l) (1 : Nat) (natG IntKind.i64 l)), ((1 : Nat), AV.bool neg), ((5 : Nat), AV.int IntKind.i64 (↑n : Int)), ((6 : Nat), AV.osl (1 : Nat) (1 : Nat) (0 : Nat) (List.length b + (1 : Nat))), ((7 : Nat), AV.int IntKind.i64 ((↑i : Int) - (1 : Int) - (1 : Int))), ((13 : Nat), AV.undef), ((14 : Nat), AV.undef), ((15 : Nat), AV.undef), ((16 : Nat), AV.undef), ((17 : Nat), AV.undef), ((18 : Nat), AV.undef)] [Blk.dead, Blk.arr (List.length b + (1 : Nat)) (1 : Nat) (appG (List.length b) (natG IntKind.u8 b) (viewG (listG (1 : Nat) [AV.int IntKind.u8 ((48 : Int) + (↑(List.getD l (Int.toNat ((↑i : Int) - (1 : Int))) (0 : Nat)) : Int))]) (0 : Nat))), Blk.arr (1 : Nat) (1 : Nat) (listG (1 : Nat) [AV.int IntKind.u8 ((48 : Int) + (↑(List.getD l (Int.toNat ((↑i : Int) - (1 : Int))) (0 : Nat)) : Int))])]))))))) (Tree.side (∀ (j : Nat), j < List.length b → ∃ (b_1 : UInt8), AV.int IntKind.u8 (↑(List.getD b ((0 : Nat) + j) (0 : Nat)) : Int) = AV.int IntKind.u8 (↑(UInt8.toNat b_1) : Int)) (Tree.leaf (Leaf2.ret [AV.str (bytesG (List.length b) (viewG (natG IntKind.u8 b) (0 : Nat)))] [Blk.dead, Blk.arr (List.length b) (1 : Nat) (natG IntKind.u8 b)])))) (by kernel_rfl) ?_
  simp only [Tree.holds, Leafs2, inR, lo, hi, Int.toNat_natCast]
  refine ⟨fun hge => ?_, fun hlt => ?_⟩
  · have hi0 : 0 < i := by have := of_decide_eq_true hge; omega
    have e : ((i : Int) - 1).toNat = i - 1 := by omega
    have hd : l.getD (i - 1) 0 < 10 := Ten.getD_lt hl (i - 1)
    have hst := tbL_step (l := l) (neg := neg) hi0 hin hn
    rw [hb] at hst
    rw [e]
    obtain ⟨x, hx⟩ : ∃ x, l.getD (i - 1) 0 = x := ⟨_, rfl⟩
    simp only [hx] at hd hst ⊢
    iterate 3 refine ⟨by omega, fun _ => ?_⟩
    refine ⟨⟨trivial, Nat.le_refl _, by omega⟩, fun _ => ⟨by omega, fun _ => ?_⟩⟩
    rw [if_pos trivial]
    refine ⟨⟨i - 1, by omega⟩, by show i - 1 < i; omega, ?_, ?_, by kernel_rfl, Nat.zero_le _⟩
    · simp only [← hst]
      simp [STy, natS, eqG_refl]; omega
    · simp only [← hst]
      exact ⟨trivial, heap_push (d := 48 + x) (by omega)⟩
  · have hi0 : i = 0 := by have := of_decide_eq_false hlt; omega
    subst hi0
    refine ⟨fun j hj => ⟨UInt8.ofNat (b.getD (0 + j) 0), ?_⟩, fun _ => ?_⟩
    · have := tbL_lt hl neg n 0 (0 + j)
      rw [hb] at this
      have e2 : (UInt8.ofNat (b.getD (0 + j) 0)).toNat = b.getD (0 + j) 0 := by rw [UInt8.toNat_ofNat']; exact Nat.mod_eq_of_lt this
      rw [e2]
    · rw [bytesG_nat _ _ _ (Nat.le_refl _), List.take_length, ← hb, text_final hl ht h0]
      exact RetR.scal hq rfl (by simp [resV])
theorem rtext_ok : CtrOK Try.prog 68 rtextC := by
  refine fn_ctrP (fn := Try.f68) (c := Try.f68.body.getD .skip) rfl rfl rfl fun p hp O w0 Q hq => ?_
  obtain ⟨l, neg⟩ := p
  obtain ⟨hl, hll⟩ := hp
  replace hq := hq _ rfl
  simp only at hq hl hll
  refine SafeK.run (k := K68) hmix noG_ok [0, 1, 5, 6, 7, 13, 14, 15, 16, 17, 18] 400 (T := Tree.leaf (Leaf2.loop (Prod.fst (lps K68 (0 : Nat))) (Prod.snd (lps K68 (0 : Nat))) [((0 : Nat), AV.sl (List.length l) (1 : Nat) (natG IntKind.i64 l)), ((1 : Nat), AV.bool neg), ((5 : Nat), AV.int IntKind.i64 (↑(List.length l) : Int)), ((6 : Nat), AV.undef), ((7 : Nat), AV.undef), ((13 : Nat), AV.undef), ((14 : Nat), AV.undef), ((15 : Nat), AV.undef), ((16 : Nat), AV.undef), ((17 : Nat), AV.undef), ((18 : Nat), AV.undef)] [])) (by kernel_rfl) ?_
  simp only [Tree.holds, Leafs2]
  refine SafeK.loop (ι := {n : Nat // n ≤ l.length ∧ Ten.tlen l ≤ n}) (fun n => STx l neg n.1) (fun _ => []) (fun n => n.1) ⟨l.length, Nat.le_refl _, Ten.tlen_le l⟩ 0 ?_ ?_ (by kernel_rfl)
  · exact ⟨by simp [STx, natS, eqG_refl], by simp, by kernel_rfl, Nat.zero_le _⟩
  · rintro ⟨n, hn, ht⟩
    refine SafeK.run (k := inside K68 0) hmix noG_ok [0, 1, 5, 6, 7, 13, 14, 15, 16, 17, 18] 400 (T := Tree.side (decide ((0 : Int) < (↑n : Int)) = true → inR IntKind.i64 ((↑n : Int) - (1 : Int))) (Tree.side (decide ((0 : Int) < (↑n : Int)) = true → (0 : Int) ≤ (↑n : Int) - (1 : Int) ∧ (↑n : Int) - (1 : Int) < (↑(List.length l) : Int)) (Tree.ite (bif decide ((0 : Int) < (↑n : Int)) then decide ((↑(List.getD l (Int.toNat ((↑n : Int) - (1 : Int))) (0 : Nat)) : Int) = (0 : Int)) else false) (Tree.side (inR IntKind.i64 ((↑n : Int) - (1 : Int))) (Tree.leaf (Leaf2.back (0 : Nat) [((0 : Nat), AV.sl (List.length l) (1 : Nat) (natG IntKind.i64 l)), ((1 : Nat), AV.bool neg), ((5 : Nat), AV.int IntKind.i64 ((↑n : Int) - (1 : Int))), ((6 : Nat), AV.undef), ((7 : Nat), AV.undef), ((13 : Nat), AV.undef), ((14 : Nat), AV.undef), ((15 : Nat), AV.undef), ((16 : Nat), AV.undef), ((17 : Nat), AV.undef), ((18 : Nat), AV.undef)] []))) (Tree.ite (decide ((↑n : Int) = (0 : Int))) (Tree.leaf (Leaf2.ret [AV.str (Array.toList #[(48 : UInt8)])] [])) (Tree.ite neg (Tree.side ((1 : Nat) ≤ (140737488355328 : Nat)) (Tree.side (inR IntKind.i64 ((↑n : Int) - (1 : Int))) (Tree.leaf (Leaf2.loop (Prod.fst (lps (inside K68 (0 : Nat)) (0 : Nat))) (Prod.snd (lps (inside K68 (0 : Nat)) (0 : Nat))) [((0 : Nat), AV.sl (List.length l) (1 : Nat) (natG IntKind.i64 l)), ((1 : Nat), AV.bool neg), ((5 : Nat), AV.int IntKind.i64 (↑n : Int)), ((6 : Nat), AV.osl (1 : Nat) (1 : Nat) (0 : Nat) (1 : Nat)), ((7 : Nat), AV.int IntKind.i64 ((↑n : Int) - (1 : Int))), ((13 : Nat), AV.undef), ((14 : Nat), AV.undef), ((15 : Nat), AV.undef), ((16 : Nat), AV.undef), ((17 : Nat), AV.undef), ((18 : Nat), AV.undef)] [Blk.arr (1 : Nat) (1 : Nat) (listG (1 : Nat) [AV.int IntKind.u8 (45 : Int)]), Blk.arr (1 : Nat) (1 : Nat) (viewG (listG (1 : Nat) [AV.int IntKind.u8 (45 : Int)]) (0 : Nat))])))) (Tree.side (inR IntKind.i64 ((↑n : Int) - (1 : Int))) (Tree.leaf (Leaf2.loop (Prod.fst (lps (inside K68 (0 : Nat)) (0 : Nat))) (Prod.snd (lps (inside K68 (0 : Nat)) (0 : Nat))) [((0 : Nat), AV.sl (List.length l) (1 : Nat) (natG IntKind.i64 l)), ((1 : Nat), AV.bool neg), ((5 : Nat), AV.int IntKind.i64 (↑n : Int)), ((6 : Nat), AV.nils), ((7 : Nat), AV.int IntKind.i64 ((↑n : Int) - (1 : Int))), ((13 : Nat), AV.undef), ((14 : Nat), AV.undef), ((15 : Nat), AV.undef), ((16 : Nat), AV.undef), ((17 : Nat), AV.undef), ((18 : Nat), AV.undef)] [])))))))) (by kernel_rfl) ?_
    simp only [Tree.holds, Leafs2, inR, lo, hi, Int.toNat_natCast]
    refine ⟨by omega, fun _ => ⟨fun h => by have := of_decide_eq_true h; omega, fun _ => ⟨fun hz => ?_, fun hz => ?_⟩⟩⟩
    · have hn0 : 0 < n := by
        rcases Nat.eq_zero_or_pos n with h | h
        · subst h; simp at hz
        · exact h
      have e : ((n : Int) - 1).toNat = n - 1 := by omega
      have hz : l.getD (n - 1) 0 = 0 := by
        rw [decide_eq_true (by omega), e] at hz
        have := of_decide_eq_true hz
        omega
      refine ⟨by omega, fun _ => ?_⟩
      rw [if_pos trivial]
      refine ⟨⟨n - 1, by omega, ?_⟩, by show n - 1 < n; omega, by simp [STx, natS, eqG_refl]; omega, by simp, by kernel_rfl, Nat.zero_le _⟩
      refine Nat.le_of_not_lt fun hlt => ?_
      have hnt : n = Ten.tlen l := by omega
      subst hnt
      exact Ten.tlen_last l hn0 hz
    · have e : ((n : Int) - 1).toNat = n - 1 := by omega
      have hnt : n = Ten.tlen l := by
        rcases Nat.eq_zero_or_pos n with h | h
        · omega
        · refine Nat.le_antisymm (Nat.le_of_not_lt fun hlt => ?_) ht
          have := Ten.tlen_zero l (n - 1) (by omega)
          rw [decide_eq_true (by omega), e, this] at hz
          simp at hz
      refine ⟨fun h0 => ?_, fun h0 => ?_⟩
      · have h0 : n = 0 := by have := of_decide_eq_true h0; omega
        rw [text_zero (by omega)] at hq
        exact RetR.scal hq rfl (by simp [resV])
      · have h0 : 0 < n := by have := of_decide_eq_false h0; omega
        refine ⟨fun hneg => ⟨by omega, fun _ => ⟨by omega, fun _ => ?_⟩⟩, fun hneg => ⟨by omega, fun _ => ?_⟩⟩
        · subst hneg
          refine text_loop l true n hl hll hn hnt h0 hq _ _ ⟨?_, ?_, by kernel_rfl, Nat.zero_le _⟩
          · simp [STy, natS, eqG_refl, tbL_top]
          · simp only [tbL_top, if_true, List.length_singleton]
            refine ⟨trivial, ⟨rfl, rfl, ?_⟩, trivial⟩
            intro j o hj ho
            simpa [viewG] using eqG_one .u8 45 j o hj ho
        · subst hneg
          refine SafeK.void (by kernel_rfl) ?_
          refine SafeK.bear 6 1 (natG .u8 []) rfl (by decide) (by kernel_rfl) ?_
          refine text_loop l false n hl hll hn hnt h0 hq _ _ ⟨?_, ?_, by kernel_rfl, Nat.zero_le _⟩
          · simp [STy, natS, eqG_refl, tbL_top, setKV]
          · simp [tbL_top, eqG_refl]
def digitsC : Ctr := ctrP true (fun s : List UInt8 => [.str s]) (fun s => s.length < 2 ^ 40) (fun s r => r = digR s) (fun _ r => (.tup [nat6 r.1, .bool r.2.1, .bool r.2.2], []))
def SDi (b : List UInt8) (neg : Bool) (i : Nat) (o : List Nat) : KV := [(5, .str b), (6, .bool neg), (7, .osl 0 1 0 o.length), (8, .int .i64 ((i : Int) - 1)), (49, .undef), (50, .undef), (51, .undef), (52, .undef)]
theorem digits_loop {O : Nat → Prop} {w0 : World} {Q : AV × Heap → Prop} {Hs : Nat → KV → Heap → Prop} (b : List UInt8) (neg : Bool) (hbl : b.length < 2 ^ 40) (hb0 : b ≠ []) (hf : b.all isD = true → formB neg b = true)
    (hq : Q (.tup [nat6 (if formB neg b then (dg b, neg, true) else ([], false, false)).1, .bool (if formB neg b then (dg b, neg, true) else ([], false, false)).2.1, .bool (if formB neg b then (dg b, neg, true) else ([], false, false)).2.2], [])) :
    SafeK Try.prog Try.f49 O 0 w0 [] Hs (RetR digitsC 0 Q) (.code (.loop (lps K49 0).1) :: (lps K49 0).2) (mk Try.f49.ntmps [(5, .str b), (6, .bool neg), (7, .nils), (8, .int .i64 ((b.length : Int) - 1)), (49, .undef), (50, .undef), (51, .undef), (52, .undef)] []) := by
  refine SafeK.bear 7 1 (natG .i64 []) rfl (by decide) (by kernel_rfl) ?_
  refine SafeK.loop (ι := {i : Nat // i ≤ b.length ∧ ∀ j, i ≤ j → j < b.length → isD (b.getD j 0) = true}) (fun i => SDi b neg i.1 (dg (b.drop i.1))) (fun i => [.arr (dg (b.drop i.1)).length 1 (natG .i64 (dg (b.drop i.1)))]) (fun i => i.1) ⟨b.length, Nat.le_refl _, fun j h1 h2 => by omega⟩ 0 ?_ ?_ (by kernel_rfl)
  · exact ⟨by simp [SDi, setKV, dg], by simp [dg, eqG_refl], by kernel_rfl, Nat.zero_le _⟩
  · rintro ⟨i, hil, hid⟩
    have hdl : (dg (b.drop i)).length = b.length - i := by rw [dg_len, List.length_drop]
    obtain ⟨o, ho⟩ : ∃ o, dg (b.drop i) = o := ⟨_, rfl⟩
    simp only [ho] at hdl ⊢
    refine SafeK.run (k := inside K49 0) hmix noG_ok [5, 6, 7, 8, 49, 50, 51, 52] 400 (T := Tree.ite (decide ((0 : Int) ≤ (↑i : Int) - (1 : Int))) (Tree.side ((0 : Int) ≤ (↑i : Int) - (1 : Int) ∧ (↑i : Int) - (1 : Int) < (↑(List.length b) : Int)) (Tree.side (decide ((↑(UInt8.toNat (List.getD b (Int.toNat ((↑i : Int) - (1 : Int))) (0 : UInt8))) : Int) < (48 : Int)) = false → (0 : Int) ≤ (↑i : Int) - (1 : Int) ∧ (↑i : Int) - (1 : Int) < (↑(List.length b) : Int)) (Tree.ite (bif decide ((↑(UInt8.toNat (List.getD b (Int.toNat ((↑i : Int) - (1 : Int))) (0 : UInt8))) : Int) < (48 : Int)) then true else decide ((57 : Int) < (↑(UInt8.toNat (List.getD b (Int.toNat ((↑i : Int) - (1 : Int))) (0 : UInt8))) : Int))) (Tree.leaf (Leaf2.ret [AV.nils, AV.bool false, AV.bool false] [Blk.arr (List.length o) (1 : Nat) (natG IntKind.i64 o)])) (Tree.side ((0 : Int) ≤ (↑i : Int) - (1 : Int) ∧ (↑i : Int) - (1 : Int) < (↑(List.length b) : Int)) (Tree.side (inR IntKind.u8 ((↑(UInt8.toNat (List.getD b (Int.toNat ((↑i : Int) - (1 : Int))) (0 : UInt8))) : Int) - (48 : Int))) (Tree.side (inR IntKind.i64 ((↑(UInt8.toNat (List.getD b (Int.toNat ((↑i : Int) - (1 : Int))) (0 : UInt8))) : Int) - (48 : Int))) (Tree.side ((0 : Nat) = (0 : Nat) ∧ List.length o ≤ List.length o ∧ (List.length o + (1 : Nat)) * (8 : Nat) ≤ (140737488355328 : Nat)) (Tree.side (inR IntKind.i64 ((↑i : Int) - (1 : Int) - (1 : Int))) (Tree.leaf (Leaf2.back (0 : Nat) [((5 : Nat), AV.str b), ((6 : Nat), AV.bool neg), ((7 : Nat), AV.osl (0 : Nat) (1 : Nat) (0 : Nat) (List.length o + (1 : Nat))), ((8 : Nat), AV.int IntKind.i64 ((↑i : Int) - (1 : Int) - (1 : Int))), ((49 : Nat), AV.undef), ((50 : Nat), AV.undef), ((51 : Nat), AV.undef), ((52 : Nat), AV.undef)] [Blk.arr (List.length o + (1 : Nat)) (1 : Nat) (appG (List.length o) (natG IntKind.i64 o) (viewG (listG (1 : Nat) [AV.int IntKind.i64 ((↑(UInt8.toNat (List.getD b (Int.toNat ((↑i : Int) - (1 : Int))) (0 : UInt8))) : Int) - (48 : Int))]) (0 : Nat))), Blk.arr (1 : Nat) (1 : Nat) (listG (1 : Nat) [AV.int IntKind.i64 ((↑(UInt8.toNat (List.getD b (Int.toNat ((↑i : Int) - (1 : Int))) (0 : UInt8))) : Int) - (48 : Int))])])))))))))) (Tree.leaf (Leaf2.ret [AV.osl (0 : Nat) (1 : Nat) (0 : Nat) (List.length o), AV.bool neg, AV.bool true] [Blk.arr (List.length o) (1 : Nat) (natG IntKind.i64 o)]))) (by kernel_rfl) ?_
    simp only [Tree.holds, Leafs2, inR, lo, hi, Int.toNat_natCast, Bool.cond_eq_ite]
    refine ⟨fun hge => ?_, fun hlt => ?_⟩
    · have hi0 : 0 < i := by have := of_decide_eq_true hge; omega
      have e : ((i : Int) - 1).toNat = i - 1 := by omega
      have hst := dg_step hi0 hil
      rw [ho] at hst
      simp only [e]
      refine ⟨by omega, fun _ => ⟨fun _ => by omega, fun _ => ⟨fun hbad => ?_, fun hgood => ⟨by omega, fun _ => ?_⟩⟩⟩⟩
      · rw [dig_test] at hbad
        have hnf : formB neg b = false := by
          have : b.all isD = false := by
            rw [List.all_eq_false]
            have hib : i - 1 < b.length := by omega
            refine ⟨b.getD (i - 1) 0, by simp [List.getD, hib], by simpa using hbad⟩
          simp [formB, this]
        rw [hnf] at hq
        refine RetR.out0 hq (fun _ => ?_) ?_
        · simp [resV, new2, new1, new0, scalA]
        · simp [resV, exp2, exp1, exp0, ren0, eqA2, eqL1, eqA, eqA0, natS]
      · rw [dig_test] at hgood
        have hd : isD (b.getD (i - 1) 0) = true := by simpa using hgood
        have hc : 48 ≤ (b.getD (i - 1) 0).toNat ∧ (b.getD (i - 1) 0).toNat ≤ 57 := by simpa [isD] using hd
        obtain ⟨c, hcc⟩ : ∃ c, (b.getD (i - 1) 0).toNat = c := ⟨_, rfl⟩
        simp only [hcc] at hc hst ⊢
        iterate 2 refine ⟨by omega, fun _ => ?_⟩
        refine ⟨⟨trivial, Nat.le_refl _, by omega⟩, fun _ => ⟨by omega, fun _ => ?_⟩⟩
        rw [if_pos trivial]
        refine ⟨⟨i - 1, by omega, fun j h1 h2 => ?_⟩, by show i - 1 < i; omega, ?_, ?_, by kernel_rfl, Nat.zero_le _⟩
        · rcases Nat.lt_or_ge j i with h | h
          · have : j = i - 1 := by omega
            subst this; exact hd
          · exact hid j h h2
        · simp only [← hst]
          simp [SDi]; omega
        · simp only [← hst]
          exact heap_push (d := c - 48) (by omega)
    · have hi0 : i = 0 := by have := of_decide_eq_false hlt; omega
      subst hi0
      have hall : b.all isD = true := by
        rw [List.all_eq_true]
        intro c hc
        obtain ⟨j, hj, rfl⟩ := List.getElem_of_mem hc
        have := hid j (Nat.zero_le _) hj
        simpa [List.getD, hj] using this
      rw [hf hall] at hq
      have ho : dg b = o := ho
      simp only [if_true, ho] at hq
      have hb : ([.arr o.length 1 (natG .i64 o)] : Heap)[0]? = some (.arr o.length 1 (natG .i64 o)) := rfl
      refine RetR.out0 hq (fun _ => ?_) ?_
      · simp only [resV, new2, List.mem_cons, List.not_mem_nil, or_false, forall_eq_or_imp, forall_eq]
        exact ⟨new0_own hb (by omega) fun j o _ _ => scal_nat _ _ _ _ _, rfl, rfl⟩
      · simp only [resV, exp2, List.map_cons, List.map_nil, exp1]
        rw [exp0_own hb (by omega), view0]
        simp [eqA2, eqL1, eqA, eqA0, natS, eqG_refl, exp0, ren0]
theorem digits_ok : CtrOK Try.prog 49 digitsC := by
  refine fn_ctrP (fn := Try.f49) (c := Try.f49.body.getD .skip) rfl rfl rfl fun s hs O w0 Q hq => ?_
  replace hq := hq _ rfl
  refine SafeK.run (k := K49) hmix noG_ok [5, 6, 7, 8, 49, 50, 51, 52] 400 (T := Tree.side (decide ((0 : Int) < (↑(List.length s) : Int)) = true → (0 : Int) ≤ (0 : Int) ∧ (0 : Int) < (↑(List.length s) : Int)) (Tree.ite (bif decide ((0 : Int) < (↑(List.length s) : Int)) then decide ((↑(UInt8.toNat (List.getD s (0 : Nat) (0 : UInt8))) : Int) = (45 : Int)) else false) (Tree.side ((0 : Int) ≤ (1 : Int) ∧ (1 : Int) ≤ (↑(List.length s) : Int)) (Tree.side (decide ((↑(List.length (List.drop (1 : Nat) (List.take (List.length s) s))) : Int) = (0 : Int)) = false → (0 : Int) ≤ (0 : Int) ∧ (0 : Int) < (↑(List.length (List.drop (1 : Nat) (List.take (List.length s) s))) : Int)) (Tree.ite (bif decide ((↑(List.length (List.drop (1 : Nat) (List.take (List.length s) s))) : Int) = (0 : Int)) then true else bif decide ((↑(UInt8.toNat (List.getD (List.drop (1 : Nat) (List.take (List.length s) s)) (0 : Nat) (0 : UInt8))) : Int) = (48 : Int)) then bif decide ((1 : Int) < (↑(List.length (List.drop (1 : Nat) (List.take (List.length s) s))) : Int)) then true else bif decide ((0 : Int) < (↑(List.length s) : Int)) then decide ((↑(UInt8.toNat (List.getD s (0 : Nat) (0 : UInt8))) : Int) = (45 : Int)) else false else false) (Tree.leaf (Leaf2.ret [AV.nils, AV.bool false, AV.bool false] [])) (Tree.side (inR IntKind.i64 ((↑(List.length (List.drop (1 : Nat) (List.take (List.length s) s))) : Int) - (1 : Int))) (Tree.leaf (Leaf2.loop (Prod.fst (lps K49 (0 : Nat))) (Prod.snd (lps K49 (0 : Nat))) [((5 : Nat), AV.str (List.drop (1 : Nat) (List.take (List.length s) s))), ((6 : Nat), AV.bool (bif decide ((0 : Int) < (↑(List.length s) : Int)) then decide ((↑(UInt8.toNat (List.getD s (0 : Nat) (0 : UInt8))) : Int) = (45 : Int)) else false)), ((7 : Nat), AV.nils), ((8 : Nat), AV.int IntKind.i64 ((↑(List.length (List.drop (1 : Nat) (List.take (List.length s) s))) : Int) - (1 : Int))), ((49 : Nat), AV.undef), ((50 : Nat), AV.undef), ((51 : Nat), AV.undef), ((52 : Nat), AV.undef)] [])))))) (Tree.side (decide ((↑(List.length s) : Int) = (0 : Int)) = false → (0 : Int) ≤ (0 : Int) ∧ (0 : Int) < (↑(List.length s) : Int)) (Tree.ite (bif decide ((↑(List.length s) : Int) = (0 : Int)) then true else bif decide ((↑(UInt8.toNat (List.getD s (0 : Nat) (0 : UInt8))) : Int) = (48 : Int)) then bif decide ((1 : Int) < (↑(List.length s) : Int)) then true else bif decide ((0 : Int) < (↑(List.length s) : Int)) then decide ((↑(UInt8.toNat (List.getD s (0 : Nat) (0 : UInt8))) : Int) = (45 : Int)) else false else false) (Tree.leaf (Leaf2.ret [AV.nils, AV.bool false, AV.bool false] [])) (Tree.side (inR IntKind.i64 ((↑(List.length s) : Int) - (1 : Int))) (Tree.leaf (Leaf2.loop (Prod.fst (lps K49 (0 : Nat))) (Prod.snd (lps K49 (0 : Nat))) [((5 : Nat), AV.str s), ((6 : Nat), AV.bool (bif decide ((0 : Int) < (↑(List.length s) : Int)) then decide ((↑(UInt8.toNat (List.getD s (0 : Nat) (0 : UInt8))) : Int) = (45 : Int)) else false)), ((7 : Nat), AV.nils), ((8 : Nat), AV.int IntKind.i64 ((↑(List.length s) : Int) - (1 : Int))), ((49 : Nat), AV.undef), ((50 : Nat), AV.undef), ((51 : Nat), AV.undef), ((52 : Nat), AV.undef)] []))))))) (by kernel_rfl) ?_
  have bad : ∀ h, digR s = ([], false, false) → RetR digitsC 0 Q [.nils, .bool false, .bool false] h := by
    intro h he
    rw [he] at hq
    refine RetR.out0 hq (fun _ => ?_) ?_
    · simp [resV, new2, new1, new0, scalA]
    · simp [resV, exp2, exp1, exp0, ren0, eqA2, eqL1, eqA, eqA0, natS]
  have core : ∀ neg b, parse s = (neg, b) → (if decide ((b.length : Int) = 0) = true then true else if decide (((b.getD 0 0).toNat : Int) = 48) = true then if decide (1 < (b.length : Int)) = true then true else neg else false) = true → digR s = ([], false, false) := by
    intro neg b hp h
    have : formB neg b = false := by
      by_cases hb : b = []
      · subst hb; simp [formB]
      · have hl : ¬ b.length = 0 := by simpa using hb
        rw [if_neg (by simpa using hl)] at h
        split at h
        · rename_i h48
          have h48 : b.getD 0 0 = 48 := u8_eq (of_decide_eq_true h48)
          split at h
          · rename_i h1; exact formB_zero h48 (by have := of_decide_eq_true h1; omega)
          · rename_i h1
            subst h
            have : b = [48] := by
              cases b with
              | nil => exact absurd rfl hb
              | cons c b =>
                have hl1 : b = [] := by
                  refine List.length_eq_zero_iff.1 ?_
                  have : ¬ 1 < (((c :: b).length : Nat) : Int) := fun h => h1 (decide_eq_true h)
                  simp only [List.length_cons] at this; omega
                subst hl1
                simp at h48; rw [h48]
            subst this; rfl
        · cases h
    simp [digR, hp, this]
  have good : ∀ neg b, parse s = (neg, b) → (if decide ((b.length : Int) = 0) = true then true else if decide (((b.getD 0 0).toNat : Int) = 48) = true then if decide (1 < (b.length : Int)) = true then true else neg else false) = false → b ≠ [] ∧ (b.all isD = true → formB neg b = true) := by
    intro neg b hp h
    have hb : b ≠ [] := by rintro rfl; simp at h
    refine ⟨hb, fun hall => ?_⟩
    have hl : ¬ b.length = 0 := by simpa using hb
    rw [if_neg (by simpa using hl)] at h
    simp only [formB, hall, hb, Bool.and_true]
    simp only [decide_false, Bool.not_false, Bool.true_and]
    split at h
    · rename_i h48
      split at h
      · cases h
      · rename_i h1
        subst h
        have : (decide (1 < b.length)) = false := decide_eq_false fun h => h1 (decide_eq_true (by omega))
        simp only [this, Bool.false_and, Bool.and_false, Bool.not_false, Bool.and_self]
    · rename_i h48
      have e1 : decide (b.getD 0 0 = 48) = false := by
        refine decide_eq_false fun h => h48 ?_
        rw [h]; rfl
      have e2 : decide (b = [48]) = false := by
        refine decide_eq_false fun h => h48 ?_
        rw [h]; rfl
      simp only [e1, e2, Bool.false_and, Bool.and_false, Bool.not_false, Bool.and_self]
  simp only [Tree.holds, Leafs2, inR, lo, hi, Bool.cond_eq_ite]
  refine ⟨fun h => by have := of_decide_eq_true h; omega, fun _ => ⟨fun hneg => ?_, fun hneg => ?_⟩⟩
  · simp only [hneg]
    obtain ⟨b, rfl⟩ : ∃ b, s = 45 :: b := by
      cases s with
      | nil => simp at hneg
      | cons c b =>
        have : c = 45 := by
          have : ((c.toNat : Nat) : Int) = 45 := by simpa using hneg
          exact u8_eq this
        exact ⟨b, by rw [this]⟩
    have hd : List.drop 1 (List.take (45 :: b).length (45 :: b)) = b := by simp
    rw [hd]
    have hp : parse (45 :: b) = (true, b) := rfl
    refine ⟨by simp; omega, fun _ => ⟨fun h => by have := of_decide_eq_false h; omega, fun _ => ⟨fun h => bad _ (core true b hp h), fun h => ⟨by simp at hs; omega, fun _ => ?_⟩⟩⟩⟩
    obtain ⟨g1, g2⟩ := good true b hp h
    refine digits_loop b true (by simp at hs; omega) g1 g2 ?_
    simpa only [digR, hp] using hq
  · simp only [hneg]
    have hp : parse s = (false, s) := by
      cases s with
      | nil => rfl
      | cons c b =>
        have : c ≠ 45 := by
          rintro rfl; simp at hneg
        simp [parse, this]
    refine ⟨fun h => by have := of_decide_eq_false h; omega, fun _ => ⟨fun h => bad _ (core false s hp h), fun h => ⟨by omega, fun _ => ?_⟩⟩⟩
    obtain ⟨g1, g2⟩ := good false s hp h
    refine digits_loop s false hs g1 g2 ?_
    simpa only [digR, hp] using hq
end Go.Proofs.Try
end

/- The reference's integers: dividing. -/
section
set_option linter.unusedVariables false
set_option linter.unusedSimpArgs false
set_option maxRecDepth 100000
open Go Go.Sx Go.Proofs Go.Nov
namespace Go.Proofs.Try
attribute [local simp] eqKV eqA eqA0 eqH eqB eqL eqL0
noncomputable def K81 : List Go.Sx.Item := [.code (Try.f81.body.getD .skip)]
noncomputable def K65 : List Go.Sx.Item := [.code (Try.f65.body.getD .skip)]
noncomputable def K67 : List Go.Sx.Item := [.code (Try.f67.body.getD .skip)]

def GR2 : Nat → Option Ctr := fun f => if f = 49 then some digitsC else none
theorem GR2_ok : ∀ g c, GR2 g = some c → CtrOK Try.prog g c := by
  intro g c h
  simp only [GR2] at h
  split at h
  · rename_i hg; subst hg; cases h; exact digits_ok
  cases h

def rcheckC : Ctr := ctrP true (fun s : List UInt8 => [.str s]) (fun s => s.length < 2 ^ 40) (fun s r => r = errI s) (fun _ (r : Int) => (.int .i64 r, []))
theorem rcheck_ok : CtrOK Try.prog 81 rcheckC := by
  refine fn_ctrP (fn := Try.f81) (c := Try.f81.body.getD .skip) rfl rfl rfl fun s hs O w0 Q hq => ?_
  replace hq := hq _ rfl
  refine SafeK.run (k := K81) hmix GR2_ok [] 400 (T := Tree.ex (fun (x : List UInt8) => eqL [AV.str s] [AV.str x] ∧ List.length x < (1099511627776 : Nat)) fun (n : List UInt8) => Tree.all (fun (r : List Nat × Bool × Bool) => r = digR n) fun (n : List Nat × Bool × Bool) => Tree.ite (!Prod.snd (Prod.snd n)) (Tree.leaf (Leaf2.ret [AV.int IntKind.i64 (12 : Int)] [])) (Tree.ite (decide ((1000 : Int) < (↑(List.length (Prod.fst n)) : Int))) (Tree.leaf (Leaf2.ret [AV.int IntKind.i64 (14 : Int)] [])) (Tree.leaf (Leaf2.ret [AV.int IntKind.i64 (0 : Int)] [])))) (by kernel_rfl) ?_
  simp only [Tree.holds, Leafs2]
  refine ⟨s, ⟨by simp, hs⟩, ⟨_, rfl⟩, ?_⟩
  rintro _ rfl
  unfold errI at hq
  unfold digR
  cases hf : formB (parse s).1 (parse s).2 with
  | false =>
    rw [hf] at hq
    exact ⟨fun _ => RetR.scal hq rfl (by simp [resV]), fun h => by simp at h⟩
  | true =>
    rw [hf, if_pos rfl] at hq
    refine ⟨fun h => by simp at h, fun _ => ⟨fun h => ?_, fun h => ?_⟩⟩
    · have h : 1000 < (parse s).2.length := by simp [dg_len] at h; omega
      rw [if_pos h] at hq
      exact RetR.scal hq rfl (by simp [resV])
    · have h : ¬ 1000 < (parse s).2.length := by simp [dg_len] at h; omega
      rw [if_neg h] at hq
      exact RetR.scal hq rfl (by simp [resV])
def GR3 : Nat → Option Ctr := fun f => if f = 81 then some rcheckC else none
theorem GR3_ok : ∀ g c, GR3 g = some c → CtrOK Try.prog g c := by
  intro g c h
  simp only [GR3] at h
  split at h
  · rename_i hg; subst hg; cases h; exact rcheck_ok
  cases h

def bothC : Ctr := ctrP true (fun p : List UInt8 × List UInt8 => [.str p.1, .str p.2]) (fun p => p.1.length < 2 ^ 40 ∧ p.2.length < 2 ^ 40) (fun p r => r = errI2 p.1 p.2) (fun _ (r : Int) => (.int .i64 r, []))
theorem both_ok : CtrOK Try.prog 65 bothC := by
  refine fn_ctrP (fn := Try.f65) (c := Try.f65.body.getD .skip) rfl rfl rfl fun p hp O w0 Q hq => ?_
  obtain ⟨s, t⟩ := p
  obtain ⟨hs, ht⟩ := hp
  replace hq := hq _ rfl
  simp only at hs ht hq
  refine SafeK.run (k := K65) hmix GR3_ok [] 400 (T := Tree.ex (fun (x : List UInt8) => eqL [AV.str s] [AV.str x] ∧ List.length x < (1099511627776 : Nat)) fun (n : List UInt8) => Tree.all (fun (r : Int) => r = errI n) fun (n : Int) => Tree.ite (!decide (n = (0 : Int))) (Tree.ex (fun (x : List UInt8) => eqL [AV.str s] [AV.str x] ∧ List.length x < (1099511627776 : Nat)) fun (n : List UInt8) => Tree.all (fun (r : Int) => r = errI n) fun (n : Int) => Tree.leaf (Leaf2.ret [AV.int IntKind.i64 n] [])) (Tree.ex (fun (x : List UInt8) => eqL [AV.str t] [AV.str x] ∧ List.length x < (1099511627776 : Nat)) fun (n : List UInt8) => Tree.all (fun (r : Int) => r = errI n) fun (n : Int) => Tree.leaf (Leaf2.ret [AV.int IntKind.i64 n] []))) (by kernel_rfl) ?_
  simp only [Tree.holds, Leafs2]
  unfold errI2 at hq
  refine ⟨s, ⟨by simp, hs⟩, ⟨_, rfl⟩, ?_⟩
  rintro _ rfl
  refine ⟨fun h => ?_, fun h => ?_⟩
  · have h : ¬ errI s = 0 := by simpa using h
    rw [if_neg h] at hq
    refine ⟨s, ⟨by simp, hs⟩, ⟨_, rfl⟩, ?_⟩
    rintro _ rfl
    exact RetR.scal hq rfl (by simp [resV])
  · have h : errI s = 0 := by simpa using h
    rw [if_pos h] at hq
    refine ⟨t, ⟨by simp, ht⟩, ⟨_, rfl⟩, ?_⟩
    rintro _ rfl
    exact RetR.scal hq rfl (by simp [resV])
def GR4 : Nat → Option Ctr := fun f => if f = 83 then some rminusC else if f = 82 then some greaterC else none
theorem GR4_ok : ∀ g c, GR4 g = some c → CtrOK Try.prog g c := by
  intro g c h
  simp only [GR4] at h
  split at h
  · rename_i hg; subst hg; cases h; exact rminus_ok
  split at h
  · rename_i hg; subst hg; cases h; exact greater_ok
  cases h

def rdivR (p : List Nat × List Nat) (r : List Nat × List Nat) : Prop := r.1.length = p.1.length ∧ Ten.dig r.1 ∧ Ten.val r.1 = Ten.val p.1 / Ten.val p.2 ∧ r.2.length ≤ p.1.length ∧ Ten.dig r.2 ∧ Ten.val r.2 = Ten.val p.1 % Ten.val p.2
def rdivC : Ctr := ctrP false (fun p : List Nat × List Nat => [nat6 p.1, nat6 p.2]) (fun p => Ten.dig p.1 ∧ Ten.dig p.2 ∧ p.1.length < 2 ^ 38 ∧ p.2.length < 2 ^ 38 ∧ 0 < Ten.val p.2) rdivR (fun _ r => (.tup [nat6 r.1, nat6 r.2], []))
def SRd (l m : List Nat) (n : Nat) : KV := [(0, nat6 l), (1, nat6 m), (6, .int .i64 (n : Int)), (7, .undef), (8, .undef), (9, .undef), (15, .undef), (16, .undef), (17, .undef), (18, .undef), (19, .undef), (20, .undef)]
def qz (i : Nat) (qs : List Nat) : List Nat := List.replicate i 0 ++ qs
def SRo (l m qs r : List Nat) (i : Nat) : KV := [(0, nat6 l), (1, nat6 m), (6, .int .i64 (m.length : Int)), (7, .osl 0 1 0 l.length), (8, nat6 r), (9, .int .i64 ((i : Int) - 1)), (15, .undef), (16, .undef), (17, .undef), (18, .undef), (19, .undef), (20, .undef)]
theorem eqG_cons {k : IntKind} {x n : Nat} {r : List Nat} (hn : n ≤ 1 + r.length) : eqG n 1 (viewG (appG 1 (listG 1 [.int k (x : Int)]) (natG k r)) 0) (natG k ((x :: r).take n)) := by
  intro j o hj ho
  have ho : o = 0 := by omega
  subst ho
  simp only [viewG, appG, listG, natG, Nat.zero_add]
  rw [getD_tk hj]
  by_cases h : j < 1
  · have : j = 0 := by omega
    subst this; simp
  · obtain ⟨i, rfl⟩ : ∃ i, j = i + 1 := ⟨j - 1, by omega⟩
    simp
def SRn (l m r : List Nat) (p : Nat) : KV := [(0, nat6 l), (1, nat6 m), (6, .int .i64 (m.length : Int)), (7, .osl 0 1 0 l.length), (8, nat6 r), (9, .int .i64 (p : Int)), (15, .undef), (16, .undef), (17, .undef), (18, .undef), (19, .undef), (20, .undef)]
theorem rdiv_inner {O : Nat → Prop} {w0 : World} {Hs : Nat → KV → Heap → Prop} {R : List AV → Heap → Prop} (l m qs r0 : List Nat) (p V : Nat) (hm : Ten.dig m) (hll : l.length < 2 ^ 38) (hml : m.length < 2 ^ 38) (hm0 : 0 < Ten.val m) (hp : p < l.length)
    (hql : qs.length + (p + 1) = l.length) (hV : V < 10 * Ten.val m) (hrd : Ten.dig r0) (hrl : r0.length ≤ m.length + 1) (hrv : Ten.val r0 = V)
    (hback : ∀ k r, k < 10 → Ten.dig r → r.length = r0.length → Ten.val r < Ten.val m → V = k * Ten.val m + Ten.val r → ∀ kv h, LeK 0 Try.f67.ntmps kv h (SRo l m (k :: qs) r p) [.arr l.length 1 (natG .i64 (qz p (k :: qs)))] → Hs 0 kv h)
    (kv : KV) (h : Heap) (hle : LeK 0 Try.f67.ntmps kv h (SRn l m r0 p) [.arr l.length 1 (natG .i64 (qz p (0 :: qs)))]) :
    SafeK Try.prog Try.f67 O 0 w0 [] Hs R (.code (.loop (lps (inside (inside K67 0) 0) 0).1) :: (lps (inside (inside K67 0) 0) 0).2) (mk Try.f67.ntmps kv h) := by
  refine SafeK.loop (ι := {z : Nat × List Nat // Ten.dig z.2 ∧ z.2.length = r0.length ∧ V = z.1 * Ten.val m + Ten.val z.2}) (fun z => SRn l m z.1.2 p) (fun z => [.arr l.length 1 (natG .i64 (qz p (z.1.1 :: qs)))]) (fun z => Ten.val z.1.2) ⟨(0, r0), hrd, rfl, by simp [hrv]⟩ 1 hle ?_ (by kernel_rfl)
  rintro ⟨⟨k, r⟩, hrd2, hrl2, hv⟩
  simp only at hrd2 hrl2 hv
  have hk : k < 10 := by
    refine Nat.lt_of_not_le fun h => ?_
    have : 10 * Ten.val m ≤ k * Ten.val m := Nat.mul_le_mul_right _ h
    omega
  have hqp : (qz p (k :: qs)).getD p 0 = k := by rw [qz, getD_app_r (by simp)]; simp
  have hset : (qz p (k :: qs)).set p (k + 1) = qz p ((k + 1) :: qs) := by
    simp [qz, List.set_append]
  have hqln : (qz p (k :: qs)).length = l.length := by simp [qz]; omega
  obtain ⟨q, hq⟩ : ∃ q, qz p (k :: qs) = q := ⟨_, rfl⟩
  simp only [hq] at hqp hset hqln ⊢
  refine SafeK.run (k := inside (inside (inside K67 0) 0) 0) hmix GR4_ok [0, 1, 6, 7, 8, 9, 15, 16, 17, 18, 19, 20] 400 (T := Tree.ex (fun (x : List Nat × List Nat) => eqL [AV.sl (List.length r) (1 : Nat) (natG IntKind.i64 r), AV.sl (List.length m) (1 : Nat) (natG IntKind.i64 m)] [AV.sl (List.length (Prod.fst x)) (1 : Nat) (natG IntKind.i64 (Prod.fst x)), AV.sl (List.length (Prod.snd x)) (1 : Nat) (natG IntKind.i64 (Prod.snd x))] ∧ Ten.dig (Prod.fst x) ∧ Ten.dig (Prod.snd x) ∧ List.length (Prod.fst x) < (4611686018427387904 : Nat) ∧ List.length (Prod.snd x) < (4611686018427387904 : Nat)) fun (n : List Nat × List Nat) => Tree.all (fun (r : Int) => r = cmpN (Ten.val (Prod.fst n)) (Ten.val (Prod.snd n))) fun (n : Int) => Tree.ite (decide ((0 : Int) ≤ n)) (Tree.ex (fun (x : List Nat × List Nat) => eqL [AV.sl (List.length r) (1 : Nat) (natG IntKind.i64 r), AV.sl (List.length m) (1 : Nat) (natG IntKind.i64 m)] [AV.sl (List.length (Prod.fst x)) (1 : Nat) (natG IntKind.i64 (Prod.fst x)), AV.sl (List.length (Prod.snd x)) (1 : Nat) (natG IntKind.i64 (Prod.snd x))] ∧ Ten.dig (Prod.fst x) ∧ Ten.dig (Prod.snd x) ∧ List.length (Prod.fst x) < (1099511627776 : Nat) ∧ Ten.val (Prod.snd x) ≤ Ten.val (Prod.fst x)) fun (n : List Nat × List Nat) => Tree.all (fun (r : List Nat) => List.length r = List.length (Prod.fst n) ∧ Ten.dig r ∧ Ten.val r + Ten.val (Prod.snd n) = Ten.val (Prod.fst n)) fun (n : List Nat) => Tree.side ((0 : Int) ≤ (↑p : Int) ∧ (↑p : Int) < (↑(List.length l) : Int)) (Tree.side (inR IntKind.i64 ((↑(List.getD q ((0 : Nat) + Int.toNat (↑p : Int)) (0 : Nat)) : Int) + (1 : Int))) (Tree.side ((0 : Int) ≤ (↑p : Int) ∧ (↑p : Int) < (↑(List.length l) : Int)) (Tree.leaf (Leaf2.back (1 : Nat) [((0 : Nat), AV.sl (List.length l) (1 : Nat) (natG IntKind.i64 l)), ((1 : Nat), AV.sl (List.length m) (1 : Nat) (natG IntKind.i64 m)), ((6 : Nat), AV.int IntKind.i64 (↑(List.length m) : Int)), ((7 : Nat), AV.osl (0 : Nat) (1 : Nat) (0 : Nat) (List.length l)), ((8 : Nat), AV.sl (List.length n) (1 : Nat) (natG IntKind.i64 n)), ((9 : Nat), AV.int IntKind.i64 (↑p : Int)), ((15 : Nat), AV.undef), ((16 : Nat), AV.undef), ((17 : Nat), AV.undef), ((18 : Nat), AV.undef), ((19 : Nat), AV.undef), ((20 : Nat), AV.undef)] [Blk.arr (List.length l) (1 : Nat) (updG (natG IntKind.i64 q) ((0 : Nat) + Int.toNat (↑p : Int)) (0 : Nat) [AV.int IntKind.i64 ((↑(List.getD q ((0 : Nat) + Int.toNat (↑p : Int)) (0 : Nat)) : Int) + (1 : Int))])]))))) (Tree.side (inR IntKind.i64 ((↑p : Int) - (1 : Int))) (Tree.leaf (Leaf2.back (0 : Nat) [((0 : Nat), AV.sl (List.length l) (1 : Nat) (natG IntKind.i64 l)), ((1 : Nat), AV.sl (List.length m) (1 : Nat) (natG IntKind.i64 m)), ((6 : Nat), AV.int IntKind.i64 (↑(List.length m) : Int)), ((7 : Nat), AV.osl (0 : Nat) (1 : Nat) (0 : Nat) (List.length l)), ((8 : Nat), AV.sl (List.length r) (1 : Nat) (natG IntKind.i64 r)), ((9 : Nat), AV.int IntKind.i64 ((↑p : Int) - (1 : Int))), ((15 : Nat), AV.undef), ((16 : Nat), AV.undef), ((17 : Nat), AV.undef), ((18 : Nat), AV.undef), ((19 : Nat), AV.undef), ((20 : Nat), AV.undef)] [Blk.arr (List.length l) (1 : Nat) (natG IntKind.i64 q)])))) (by kernel_rfl) ?_
  simp only [Tree.holds, Leafs2, inR, lo, hi, Int.toNat_natCast]
  refine ⟨(r, m), ⟨by simp [eqG_refl], hrd2, hm, by simp only; omega, by simp only; omega⟩, ⟨_, rfl⟩, ?_⟩
  rintro _ rfl
  simp only [Nat.zero_add]
  refine ⟨fun hge => ?_, fun hlt => ?_⟩
  · have hge : Ten.val m ≤ Ten.val r := cmpN_ge.1 (of_decide_eq_true hge)
    refine ⟨(r, m), ⟨by simp [eqG_refl], hrd2, hm, by simp only; omega, hge⟩, minus_ex hrd2 hge, ?_⟩
    rintro r2 ⟨h1, h2, h3⟩
    simp only at h1 h3
    rw [hqp]
    refine ⟨by omega, fun _ => ⟨by omega, fun _ => ⟨by omega, fun _ => ?_⟩⟩⟩
    rw [if_pos trivial]
    refine ⟨⟨(k + 1, r2), h2, h1.trans hrl2, ?_⟩, by show Ten.val r2 < Ten.val r; omega, by simp [SRn, natS, eqG_refl], ?_, by kernel_rfl, Nat.zero_le _⟩
    · show V = (k + 1) * Ten.val m + Ten.val r2
      rw [Nat.add_mul, Nat.one_mul]; omega
    · simp only [← hset]
      have h1 := eqG_set (k := .i64) (l := q) (v := ((k : Int) + 1)) (i := p) (by omega) (by omega)
      have e : ((k : Int) + 1).toNat = k + 1 := by omega
      rw [e, hqln] at h1
      exact ⟨⟨rfl, rfl, h1⟩, trivial⟩
  · have hlt : Ten.val r < Ten.val m := by
      have := of_decide_eq_false hlt
      rw [cmpN_ge] at this
      omega
    refine ⟨by omega, fun _ => ?_⟩
    rw [if_neg (by decide)]
    refine hback k r hk hrd2 hrl2 hlt hv _ _ ⟨by simp [SRo, natS, eqG_refl], ?_, by kernel_rfl, Nat.zero_le _⟩
    rw [hq]
    simp [eqG_refl]
structure IRo (l m : List Nat) where
  qs : List Nat
  r : List Nat
  i : Nat
  hi : i ≤ l.length
  hql : qs.length + i = l.length
  hqd : Ten.dig qs
  hrd : Ten.dig r
  hrl : r.length ≤ m.length + 1
  hrl2 : r.length + i ≤ l.length
  hlt : Ten.val r < Ten.val m
  hv : Ten.val (l.drop i) = Ten.val qs * Ten.val m + Ten.val r
theorem rdiv_outer {O : Nat → Prop} {w0 : World} {Q : AV × Heap → Prop} {Hs : Nat → KV → Heap → Prop} (l m : List Nat) (hl : Ten.dig l) (hm : Ten.dig m) (hll : l.length < 2 ^ 38) (hml : m.length < 2 ^ 38) (hm0 : 0 < Ten.val m) (hmt : Ten.val m < 10 ^ m.length)
    (hq : ∀ r, rdivR (l, m) r → Q (.tup [nat6 r.1, nat6 r.2], [])) (kv : KV) (h : Heap) (hle : LeK 0 Try.f67.ntmps kv h (SRo l m [] [] l.length) [.arr l.length 1 (natG .i64 (qz l.length []))]) :
    SafeK Try.prog Try.f67 O 0 w0 [] Hs (RetR rdivC 0 Q) (.code (.loop (lps (inside K67 0) 0).1) :: (lps (inside K67 0) 0).2) (mk Try.f67.ntmps kv h) := by
  refine SafeK.loop (ι := IRo l m) (fun z => SRo l m z.qs z.r z.i) (fun z => [.arr l.length 1 (natG .i64 (qz z.i z.qs))]) (fun z => z.i) ⟨[], [], l.length, Nat.le_refl _, by simp, by simp [Ten.dig], by simp [Ten.dig], by simp, by simp, by simpa [Ten.val] using hm0, by simp [Ten.val]⟩ 0 hle ?_ (by kernel_rfl)
  rintro ⟨qs, r, i, hil, hql, hqd, hrd, hrl, hrl2, hrv, hv⟩
  obtain ⟨q, hqz⟩ : ∃ q, qz i qs = q := ⟨_, rfl⟩
  simp only [hqz]
  refine SafeK.run (k := inside (inside K67 0) 0) hmix GR4_ok [0, 1, 6, 7, 8, 9, 15, 16, 17, 18, 19, 20] 400 (T := Tree.ite (decide ((0 : Int) ≤ (↑i : Int) - (1 : Int))) (Tree.side ((0 : Int) ≤ (↑i : Int) - (1 : Int) ∧ (↑i : Int) - (1 : Int) < (↑(List.length l) : Int)) (Tree.side ((0 : Nat) = (0 : Nat) ∧ (1 : Nat) ≤ (1 : Nat) ∧ ((1 : Nat) + List.length r) * (8 : Nat) ≤ (140737488355328 : Nat)) (Tree.side (inR IntKind.i64 ((↑(List.length m) : Int) + (1 : Int))) (Tree.ite (decide ((↑(List.length m) : Int) + (1 : Int) < (↑((1 : Nat) + List.length r) : Int))) (Tree.side (inR IntKind.i64 ((↑(List.length m) : Int) + (1 : Int))) (Tree.side ((0 : Int) ≤ (↑(List.length m) : Int) + (1 : Int) ∧ (↑(List.length m) : Int) + (1 : Int) ≤ (↑((1 : Nat) + List.length r) : Int)) (Tree.leaf (Leaf2.loop (Prod.fst (lps (inside (inside K67 (0 : Nat)) (0 : Nat)) (0 : Nat))) (Prod.snd (lps (inside (inside K67 (0 : Nat)) (0 : Nat)) (0 : Nat))) [((0 : Nat), AV.sl (List.length l) (1 : Nat) (natG IntKind.i64 l)), ((1 : Nat), AV.sl (List.length m) (1 : Nat) (natG IntKind.i64 m)), ((6 : Nat), AV.int IntKind.i64 (↑(List.length m) : Int)), ((7 : Nat), AV.osl (0 : Nat) (1 : Nat) (0 : Nat) (List.length l)), ((8 : Nat), AV.osl (1 : Nat) (1 : Nat) (0 : Nat) (Int.toNat ((↑(List.length m) : Int) + (1 : Int)) - (0 : Nat))), ((9 : Nat), AV.int IntKind.i64 ((↑i : Int) - (1 : Int))), ((15 : Nat), AV.undef), ((16 : Nat), AV.undef), ((17 : Nat), AV.undef), ((18 : Nat), AV.undef), ((19 : Nat), AV.undef), ((20 : Nat), AV.undef)] [Blk.arr (List.length l) (1 : Nat) (natG IntKind.i64 q), Blk.arr ((1 : Nat) + List.length r) (1 : Nat) (appG (1 : Nat) (listG (1 : Nat) [AV.int IntKind.i64 (↑(List.getD l (Int.toNat ((↑i : Int) - (1 : Int))) (0 : Nat)) : Int)]) (natG IntKind.i64 r))])))) (Tree.leaf (Leaf2.loop (Prod.fst (lps (inside (inside K67 (0 : Nat)) (0 : Nat)) (0 : Nat))) (Prod.snd (lps (inside (inside K67 (0 : Nat)) (0 : Nat)) (0 : Nat))) [((0 : Nat), AV.sl (List.length l) (1 : Nat) (natG IntKind.i64 l)), ((1 : Nat), AV.sl (List.length m) (1 : Nat) (natG IntKind.i64 m)), ((6 : Nat), AV.int IntKind.i64 (↑(List.length m) : Int)), ((7 : Nat), AV.osl (0 : Nat) (1 : Nat) (0 : Nat) (List.length l)), ((8 : Nat), AV.osl (1 : Nat) (1 : Nat) (0 : Nat) ((1 : Nat) + List.length r)), ((9 : Nat), AV.int IntKind.i64 ((↑i : Int) - (1 : Int))), ((15 : Nat), AV.undef), ((16 : Nat), AV.undef), ((17 : Nat), AV.undef), ((18 : Nat), AV.undef), ((19 : Nat), AV.undef), ((20 : Nat), AV.undef)] [Blk.arr (List.length l) (1 : Nat) (natG IntKind.i64 q), Blk.arr ((1 : Nat) + List.length r) (1 : Nat) (appG (1 : Nat) (listG (1 : Nat) [AV.int IntKind.i64 (↑(List.getD l (Int.toNat ((↑i : Int) - (1 : Int))) (0 : Nat)) : Int)]) (natG IntKind.i64 r))])))))) (Tree.leaf (Leaf2.ret [AV.osl (0 : Nat) (1 : Nat) (0 : Nat) (List.length l), AV.sl (List.length r) (1 : Nat) (natG IntKind.i64 r)] [Blk.arr (List.length l) (1 : Nat) (natG IntKind.i64 q)]))) (by kernel_rfl) ?_
  simp only [Tree.holds, Leafs2, inR, lo, hi, Int.toNat_natCast]
  refine ⟨fun hge => ?_, fun hlt => ?_⟩
  · obtain ⟨p, rfl⟩ : ∃ p, i = p + 1 := ⟨i - 1, by have := of_decide_eq_true hge; omega⟩
    have e : (((p + 1 : Nat) : Int) - 1).toNat = p := by omega
    have e2 : ((p + 1 : Nat) : Int) - 1 = (p : Int) := by omega
    have e3 : ((m.length : Int) + 1).toNat - 0 = m.length + 1 := by omega
    have hx : l.getD p 0 < 10 := Ten.getD_lt hl p
    have hdrop : l.drop p = l.getD p 0 :: l.drop (p + 1) := by
      have h1 : p < l.length := by omega
      rw [List.drop_eq_getElem_cons h1]
      simp [List.getD, h1]
    simp only [e2, e3, Int.toNat_natCast]
    obtain ⟨x, hxe⟩ : ∃ x, l.getD p 0 = x := ⟨_, rfl⟩
    simp only [hxe] at hx hdrop ⊢
    have hVv : Ten.val (x :: r) = x + 10 * Ten.val r := rfl
    have hV : Ten.val (x :: r) < 10 * Ten.val m := by rw [hVv]; omega
    have hpow : 10 ^ (m.length + 1) = 10 ^ m.length * 10 := Nat.pow_succ ..
    have hcut : Ten.val ((x :: r).take (m.length + 1)) = Ten.val (x :: r) := take_val (by rw [hpow]; omega)
    have hdig : Ten.dig ((x :: r).take (m.length + 1)) := Ten.dig_take (Ten.dig_cons.2 ⟨hx, hrd⟩) _
    have main : ∀ n, n = ((x :: r).take (m.length + 1)).length → SafeK Try.prog Try.f67 O 0 w0 [] (fun d kv h => if d = 0 then ∃ x' : IRo l m, x'.i < p + 1 ∧ LeK 0 Try.f67.ntmps kv h (SRo l m x'.qs x'.r x'.i) [.arr l.length 1 (natG .i64 (qz x'.i x'.qs))] else Hs d kv h) (RetR rdivC 0 Q)
        (.code (.loop (lps (inside (inside K67 0) 0) 0).1) :: (lps (inside (inside K67 0) 0) 0).2)
        (mk Try.f67.ntmps [(0, nat6 l), (1, nat6 m), (6, .int .i64 (m.length : Int)), (7, .osl 0 1 0 l.length), (8, .osl 1 1 0 n), (9, .int .i64 (p : Int)), (15, .undef), (16, .undef), (17, .undef), (18, .undef), (19, .undef), (20, .undef)]
          [.arr l.length 1 (natG .i64 q), .arr (1 + r.length) 1 (appG 1 (listG 1 [.int .i64 (x : Int)]) (natG .i64 r))]) := by
      intro n hn
      refine SafeK.freeze [1] (by simp) (by kernel_rfl) ?_
      refine rdiv_inner l m qs ((x :: r).take (m.length + 1)) p (Ten.val (x :: r)) hm hll hml hm0 (by omega) (by omega) hV hdig (by simp; omega) hcut ?_ _ _ ⟨?_, ?_, by kernel_rfl, Nat.zero_le _⟩
      · intro k r' hk hd' hl' hlt' hv' kv h hle'
        rw [if_pos rfl]
        rw [List.length_take, List.length_cons] at hl'
        refine ⟨⟨k :: qs, r', p, by omega, by simp; omega, Ten.dig_cons.2 ⟨hk, hqd⟩, hd', by omega, by omega, hlt', ?_⟩, Nat.lt_succ_self p, hle'⟩
        rw [hdrop]
        show x + 10 * Ten.val (l.drop (p + 1)) = (k + 10 * Ten.val qs) * Ten.val m + Ten.val r'
        rw [hv, Nat.add_mul, Nat.mul_assoc]
        rw [hVv] at hv'
        omega
      · have : frzKV [1] ([.arr l.length 1 (natG .i64 q), .arr (1 + r.length) 1 (appG 1 (listG 1 [.int .i64 (x : Int)]) (natG .i64 r))]) [(0, nat6 l), (1, nat6 m), (6, .int .i64 (m.length : Int)), (7, .osl 0 1 0 l.length), (8, .osl 1 1 0 n), (9, .int .i64 (p : Int)), (15, .undef), (16, .undef), (17, .undef), (18, .undef), (19, .undef), (20, .undef)] = [(0, nat6 l), (1, nat6 m), (6, .int .i64 (m.length : Int)), (7, .osl 0 1 0 l.length), (8, .sl n 1 (viewG (appG 1 (listG 1 [.int .i64 (x : Int)]) (natG .i64 r)) 0)), (9, .int .i64 (p : Int)), (15, .undef), (16, .undef), (17, .undef), (18, .undef), (19, .undef), (20, .undef)] := rfl
        rw [this]
        have hg := eqG_cons (k := .i64) (x := x) (r := r) (n := n) (by rw [hn]; simp; omega)
        have h2 : (x :: r).take n = (x :: r).take (m.length + 1) := by rw [hn, List.length_take, ← List.take_take, List.take_length]
        rw [h2] at hg
        subst hn
        refine ⟨rfl, by simp [natS, eqG_refl], rfl, by simp [natS, eqG_refl], rfl, by simp, rfl, by simp, rfl, ?_, rfl, by simp, by simp⟩
        exact ⟨rfl, rfl, hg⟩
      · have : deadH [1] (killH [1] [.arr l.length 1 (natG .i64 q), .arr (1 + r.length) 1 (appG 1 (listG 1 [.int .i64 (x : Int)]) (natG .i64 r))]) = [.arr l.length 1 (natG .i64 q), .dead] := rfl
        rw [this]
        have hqq : q = qz p (0 :: qs) := by rw [← hqz]; simp [qz, List.replicate_succ']
        rw [← hqq]
        simp [eqG_refl]
    refine ⟨by omega, fun _ => ⟨⟨trivial, Nat.le_refl _, by omega⟩, fun _ => ⟨by omega, fun _ => ⟨fun hbig => ?_, fun hsm => ?_⟩⟩⟩⟩
    · have hbig := of_decide_eq_true hbig
      refine ⟨by omega, fun _ => ⟨by omega, fun _ => main _ ?_⟩⟩
      rw [List.length_take, List.length_cons]; omega
    · have hsm := of_decide_eq_false hsm
      refine main _ ?_
      rw [List.length_take, List.length_cons]; omega
  · have hi0 : i = 0 := by have := of_decide_eq_false hlt; omega
    subst hi0
    rw [← hqz]
    have hqq : qz 0 qs = qs := by simp [qz]
    rw [hqq]
    have hql2 : l.length = qs.length := by omega
    rw [List.drop_zero] at hv
    have hb : ([.arr l.length 1 (natG .i64 qs)] : Heap)[0]? = some (.arr l.length 1 (natG .i64 qs)) := rfl
    have hd : Ten.val l / Ten.val m = Ten.val qs ∧ Ten.val l % Ten.val m = Ten.val r := by
      rw [hv, Nat.mul_comm, Nat.mul_add_div hm0, Nat.mul_add_mod, Nat.div_eq_of_lt hrv, Nat.mod_eq_of_lt hrv]
      exact ⟨by omega, rfl⟩
    refine RetR.out0 (hq (qs, r) ⟨by simp only; omega, hqd, by simp only [hd.1], by simp only; omega, hrd, by simp only [hd.2]⟩) (fun h => by cases h) ?_
    simp only [resV, exp2, List.map_cons, List.map_nil, exp1]
    rw [exp0_own hb (by omega), view0]
    simp [eqA2, eqL1, eqA, eqA0, natS, eqG_refl, exp0, ren0, hql2]
theorem rdiv_ok : CtrOK Try.prog 67 rdivC := by
  refine fn_ctrP (fn := Try.f67) (c := Try.f67.body.getD .skip) rfl rfl rfl fun p hp O w0 Q hq => ?_
  obtain ⟨l, m⟩ := p
  obtain ⟨hl, hm, hll, hml, hm0⟩ := hp
  simp only at hq hl hm hll hml hm0
  refine SafeK.run (k := K67) hmix GR4_ok [0, 1, 6, 7, 8, 9, 15, 16, 17, 18, 19, 20] 400 (T := Tree.leaf (Leaf2.loop (Prod.fst (lps K67 (0 : Nat))) (Prod.snd (lps K67 (0 : Nat))) [((0 : Nat), AV.sl (List.length l) (1 : Nat) (natG IntKind.i64 l)), ((1 : Nat), AV.sl (List.length m) (1 : Nat) (natG IntKind.i64 m)), ((6 : Nat), AV.int IntKind.i64 (↑(List.length m) : Int)), ((7 : Nat), AV.undef), ((8 : Nat), AV.undef), ((9 : Nat), AV.undef), ((15 : Nat), AV.undef), ((16 : Nat), AV.undef), ((17 : Nat), AV.undef), ((18 : Nat), AV.undef), ((19 : Nat), AV.undef), ((20 : Nat), AV.undef)] [])) (by kernel_rfl) ?_
  simp only [Tree.holds, Leafs2]
  refine SafeK.loop (ι := {n : Nat // n ≤ m.length ∧ Ten.tlen m ≤ n}) (fun n => SRd l m n.1) (fun _ => []) (fun n => n.1) ⟨m.length, Nat.le_refl _, Ten.tlen_le m⟩ 0 ?_ ?_ (by kernel_rfl)
  · exact ⟨by simp [SRd, natS, eqG_refl], by simp, by kernel_rfl, Nat.zero_le _⟩
  · rintro ⟨n, hn, ht⟩
    refine SafeK.run (k := inside K67 0) hmix GR4_ok [0, 1, 6, 7, 8, 9, 15, 16, 17, 18, 19, 20] 400 (T := Tree.side (decide ((1 : Int) < (↑n : Int)) = true → inR IntKind.i64 ((↑n : Int) - (1 : Int))) (Tree.side (decide ((1 : Int) < (↑n : Int)) = true → (0 : Int) ≤ (↑n : Int) - (1 : Int) ∧ (↑n : Int) - (1 : Int) < (↑(List.length m) : Int)) (Tree.ite (bif decide ((1 : Int) < (↑n : Int)) then decide ((↑(List.getD m (Int.toNat ((↑n : Int) - (1 : Int))) (0 : Nat)) : Int) = (0 : Int)) else false) (Tree.side (inR IntKind.i64 ((↑n : Int) - (1 : Int))) (Tree.leaf (Leaf2.back (0 : Nat) [((0 : Nat), AV.sl (List.length l) (1 : Nat) (natG IntKind.i64 l)), ((1 : Nat), AV.sl (List.length m) (1 : Nat) (natG IntKind.i64 m)), ((6 : Nat), AV.int IntKind.i64 ((↑n : Int) - (1 : Int))), ((7 : Nat), AV.undef), ((8 : Nat), AV.undef), ((9 : Nat), AV.undef), ((15 : Nat), AV.undef), ((16 : Nat), AV.undef), ((17 : Nat), AV.undef), ((18 : Nat), AV.undef), ((19 : Nat), AV.undef), ((20 : Nat), AV.undef)] []))) (Tree.side ((0 : Int) ≤ (↑n : Int) ∧ (↑n : Int) ≤ (↑(List.length m) : Int)) (Tree.side ((0 : Int) ≤ (↑(List.length l) : Int) ∧ (↑(List.length l) : Int) ≤ (↑(List.length l) : Int) ∧ inR IntKind.i64 (↑(List.length l) : Int) ∧ Int.toNat (↑(List.length l) : Int) * (8 : Nat) ≤ (140737488355328 : Nat)) (Tree.side (inR IntKind.i64 ((↑(List.length l) : Int) - (1 : Int))) (Tree.leaf (Leaf2.loop (Prod.fst (lps (inside K67 (0 : Nat)) (0 : Nat))) (Prod.snd (lps (inside K67 (0 : Nat)) (0 : Nat))) [((0 : Nat), AV.sl (List.length l) (1 : Nat) (natG IntKind.i64 l)), ((1 : Nat), AV.sl (Int.toNat (↑n : Int) - (0 : Nat)) (1 : Nat) (viewG (natG IntKind.i64 m) (0 : Nat))), ((6 : Nat), AV.int IntKind.i64 (↑n : Int)), ((7 : Nat), AV.osl (0 : Nat) (1 : Nat) (0 : Nat) (Int.toNat (↑(List.length l) : Int))), ((8 : Nat), AV.nils), ((9 : Nat), AV.int IntKind.i64 ((↑(List.length l) : Int) - (1 : Int))), ((15 : Nat), AV.undef), ((16 : Nat), AV.undef), ((17 : Nat), AV.undef), ((18 : Nat), AV.undef), ((19 : Nat), AV.undef), ((20 : Nat), AV.undef)] [Blk.arr (Int.toNat (↑(List.length l) : Int)) (1 : Nat) (sameG [AV.int IntKind.i64 (0 : Int)])])))))))) (by kernel_rfl) ?_
    simp only [Tree.holds, Leafs2, inR, lo, hi, Int.toNat_natCast]
    refine ⟨by omega, fun _ => ⟨fun h => by have := of_decide_eq_true h; omega, fun _ => ⟨fun hz => ?_, fun hz => ?_⟩⟩⟩
    · have hn1 : 1 < n := by
        rcases Nat.lt_or_ge 1 n with h | h
        · exact h
        · rw [decide_eq_false (by omega)] at hz; cases hz
      have e : ((n : Int) - 1).toNat = n - 1 := by omega
      have hz : m.getD (n - 1) 0 = 0 := by
        rw [decide_eq_true (by omega), e] at hz
        have := of_decide_eq_true hz
        omega
      refine ⟨by omega, fun _ => ?_⟩
      rw [if_pos trivial]
      refine ⟨⟨n - 1, by omega, ?_⟩, by show n - 1 < n; omega, by simp [SRd, natS, eqG_refl]; omega, by simp, by kernel_rfl, Nat.zero_le _⟩
      refine Nat.le_of_not_lt fun hlt => ?_
      have hnt : n = Ten.tlen m := by omega
      subst hnt
      exact Ten.tlen_last m (by omega) hz
    · refine ⟨by omega, fun _ => ⟨by omega, fun _ => ⟨by omega, fun _ => ?_⟩⟩⟩
      have hlen : (m.take n).length = n := by rw [List.length_take]; omega
      have hd : Ten.dig (m.take n) := Ten.dig_take hm n
      have hval : Ten.val (m.take n) = Ten.val m := by
        refine val_eq_all hd hm fun j => ?_
        rcases Nat.lt_or_ge j n with h | h
        · exact getD_tk h
        · rw [getD_out (by omega), Ten.tlen_zero m j (by omega)]
      refine rdiv_outer l (m.take n) hl hd hll (by omega) (by omega) (Ten.val_lt hd) ?_ _ _ ⟨?_, ?_, by kernel_rfl, Nat.zero_le _⟩
      · intro r hr
        refine hq r ?_
        simp only [rdivR, hval] at hr ⊢
        exact hr
      · refine ⟨rfl, by simp [natS, eqG_refl], rfl, ?_, by simp [hlen, natS]⟩
        refine ⟨by rw [hlen]; rfl, rfl, ?_⟩
        intro j o hj ho
        have ho : o = 0 := by omega
        subst ho
        simp only [viewG, natG, Nat.zero_add]
        rw [getD_tk (by omega)]
      · refine ⟨⟨rfl, rfl, ?_⟩, trivial⟩
        intro j o hj ho
        have ho : o = 0 := by omega
        subst ho
        simp only [sameG, natG, qz, List.append_nil]
        rw [getD_rep hj]; rfl
end Go.Proofs.Try
end

/- The reference's integers: the greatest common divisor. -/
section
set_option linter.unusedVariables false
set_option linter.unusedSimpArgs false
set_option maxRecDepth 100000
open Go Go.Sx Go.Proofs Go.Nov
namespace Go.Proofs.Try
attribute [local simp] eqKV eqA eqA0 eqH eqB eqL eqL0
noncomputable def K51 : List Go.Sx.Item := [.code (Try.f51.body.getD .skip)]

def big : Nat := 1000
theorem numI_lt {s : List UInt8} (h : errI s = 0) : numI s < 10 ^ big := by
  obtain ⟨_, h1, _, h2⟩ := errI_sgn h
  exact Nat.lt_of_lt_of_le (numD_lt h1) (Nat.pow_le_pow_right (by decide) h2)
theorem wr_gcd {x y : Nat} (hx : x < 10 ^ big) (hy : y < 10 ^ big) : wr false (Nat.gcd x y) = (textR false (Nat.gcd x y), 0) := by
  have h : Nat.gcd x y < 10 ^ big := by
    rcases Nat.eq_zero_or_pos x with h | h
    · subst h; rw [Nat.gcd_zero_left]; exact hy
    · exact Nat.lt_of_le_of_lt (Nat.le_of_dvd h (Nat.gcd_dvd_left x y)) hx
  have h2 := dec_len_le h
  have hb : big = 1000 := rfl
  unfold wr textR
  split
  · rfl
  · rw [if_neg (by omega)]
theorem digR_ok {s : List UInt8} (h : errI s = 0) : digR s = (dg (parse s).2, (parse s).1, true) ∧ Ten.dig (dg (parse s).2) ∧ (dg (parse s).2).length ≤ 1000 ∧ Ten.val (dg (parse s).2) = numI s := by
  obtain ⟨neg, b, h1, h2, h3, h4, h5, h6⟩ := errI_ok h
  refine ⟨?_, ?_, ?_, dg_val _⟩
  · simp only [digR, h2, h3, if_true]
  · simp only [h2]; exact dg_dig h4
  · simp only [h2, dg_len]; exact h6
def rgcdC : Ctr := ctrP true (fun p : List UInt8 × List UInt8 => [.str p.1, .str p.2]) (fun p => p.1.length < 2 ^ 40 ∧ p.2.length < 2 ^ 40) (fun p r => r = gcdR p.1 p.2) (fun _ r => (.tup [.str r.1, .int .i64 r.2], []))
def SRg (x y : List Nat) : KV := [(7, nat6 x), (10, nat6 y)]
def GR5 : Nat → Option Ctr := fun f => if f = 65 then some bothC else if f = 49 then some digitsC else if f = 67 then some rdivC else if f = 66 then some zeroC else if f = 68 then some rtextC else none
theorem GR5_ok : ∀ g c, GR5 g = some c → CtrOK Try.prog g c := by
  intro g c h
  unfold GR5 at h
  by_cases hg : g = 65
  · subst hg
    rw [if_pos rfl] at h
    cases h
    exact both_ok
  rw [if_neg hg] at h
  clear hg
  by_cases hg : g = 49
  · subst hg
    rw [if_pos rfl] at h
    cases h
    exact digits_ok
  rw [if_neg hg] at h
  clear hg
  by_cases hg : g = 67
  · subst hg
    rw [if_pos rfl] at h
    cases h
    exact rdiv_ok
  rw [if_neg hg] at h
  clear hg
  by_cases hg : g = 66
  · subst hg
    rw [if_pos rfl] at h
    cases h
    exact zero_ok
  rw [if_neg hg] at h
  clear hg
  by_cases hg : g = 68
  · subst hg
    rw [if_pos rfl] at h
    cases h
    exact rtext_ok
  rw [if_neg hg] at h
  clear hg
  cases h

theorem rgcd_ok : CtrOK Try.prog 51 rgcdC := by
  refine fn_ctrP (fn := Try.f51) (c := Try.f51.body.getD .skip) rfl rfl rfl fun p hp O w0 Q hq => ?_
  obtain ⟨s, t⟩ := p
  obtain ⟨hs, ht⟩ := hp
  replace hq := hq _ rfl
  simp only at hs ht hq
  refine SafeK.run (k := K51) hmix GR5_ok [7, 10] 400 (T := Tree.ex (fun (x : List UInt8 × List UInt8) => eqL [AV.str s, AV.str t] [AV.str (Prod.fst x), AV.str (Prod.snd x)] ∧ List.length (Prod.fst x) < (1099511627776 : Nat) ∧ List.length (Prod.snd x) < (1099511627776 : Nat)) fun (n : List UInt8 × List UInt8) => Tree.all (fun (r : Int) => r = errI2 (Prod.fst n) (Prod.snd n)) fun (n : Int) => Tree.ite (!decide (n = (0 : Int))) (Tree.leaf (Leaf2.ret [AV.str (Array.toList #[]), AV.int IntKind.i64 n] [])) (Tree.ex (fun (x : List UInt8) => eqL [AV.str s] [AV.str x] ∧ List.length x < (1099511627776 : Nat)) fun (n : List UInt8) => Tree.all (fun (r : List Nat × Bool × Bool) => r = digR n) fun (n : List Nat × Bool × Bool) => Tree.ex (fun (x : List UInt8) => eqL [AV.str t] [AV.str x] ∧ List.length x < (1099511627776 : Nat)) fun (n_1 : List UInt8) => Tree.all (fun (r : List Nat × Bool × Bool) => r = digR n_1) fun (n_2 : List Nat × Bool × Bool) => Tree.leaf (Leaf2.loop (Prod.fst (lps K51 (0 : Nat))) (Prod.snd (lps K51 (0 : Nat))) [((7 : Nat), AV.sl (List.length (Prod.fst n)) (1 : Nat) (natG IntKind.i64 (Prod.fst n))), ((10 : Nat), AV.sl (List.length (Prod.fst n_2)) (1 : Nat) (natG IntKind.i64 (Prod.fst n_2)))] []))) (by kernel_rfl) ?_
  simp only [Tree.holds, Leafs2]
  refine ⟨(s, t), ⟨by simp, hs, ht⟩, ⟨_, rfl⟩, ?_⟩
  rintro _ rfl
  simp only
  refine ⟨fun he => ?_, fun he => ?_⟩
  · have he : errI2 s t ≠ 0 := by
      intro h; simp [h] at he
    have e : gcdR s t = ([], errI2 s t) := by simp [gcdR, he]
    rw [e] at hq
    exact RetR.scal hq rfl (by simp [resV])
  · have he : errI2 s t = 0 := by
      refine Decidable.byContradiction fun h => ?_
      simp [h] at he
    obtain ⟨h1, h2⟩ := errI2_zero.1 he
    have e : gcdR s t = (textR false (Nat.gcd (numI s) (numI t)), 0) := by
      rw [gcdR, if_pos he]; exact wr_gcd (numI_lt h1) (numI_lt h2)
    rw [e] at hq
    refine ⟨s, ⟨by simp, hs⟩, ⟨_, rfl⟩, ?_⟩
    rintro _ rfl
    refine ⟨t, ⟨by simp, ht⟩, ⟨_, rfl⟩, ?_⟩
    rintro _ rfl
    obtain ⟨a1, a2, a3, a4⟩ := digR_ok h1
    obtain ⟨b1, b2, b3, b4⟩ := digR_ok h2
    rw [a1, b1]
    simp only
    rw [← a4, ← b4] at hq
    generalize dg (parse s).2 = x0 at *
    generalize dg (parse t).2 = y0 at *
    clear a1 b1 e he h1 h2 hs ht a4 b4
    refine SafeK.loop (ι := {z : List Nat × List Nat // Nat.gcd (Ten.val z.1) (Ten.val z.2) = Nat.gcd (Ten.val x0) (Ten.val y0) ∧ Ten.dig z.1 ∧ Ten.dig z.2 ∧ z.1.length ≤ 1000 ∧ z.2.length ≤ 1000}) (fun z => SRg z.1.1 z.1.2) (fun _ => []) (fun z => Ten.val z.1.2) ⟨(x0, y0), rfl, a2, b2, a3, b3⟩ 0 ?_ ?_ (by kernel_rfl)
    · exact ⟨by simp [SRg, natS, eqG_refl], by simp, by kernel_rfl, Nat.zero_le _⟩
    · rintro ⟨⟨x, y⟩, hg, hx, hy, hxl, hyl⟩
      simp only at hg hx hy hxl hyl
      refine SafeK.run (k := inside K51 0) hmix GR5_ok [7, 10] 400 (T := Tree.ex (fun (x : List Nat) => eqL [AV.sl (List.length y) (1 : Nat) (natG IntKind.i64 y)] [AV.sl (List.length x) (1 : Nat) (natG IntKind.i64 x)] ∧ Ten.dig x ∧ List.length x < (4611686018427387904 : Nat)) fun (n : List Nat) => Tree.all (fun (r : Bool) => r = decide (Ten.val n = (0 : Nat))) fun (n : Bool) => Tree.ite (!n) (Tree.ex (fun (x_1 : List Nat × List Nat) => eqL [AV.sl (List.length x) (1 : Nat) (natG IntKind.i64 x), AV.sl (List.length y) (1 : Nat) (natG IntKind.i64 y)] [AV.sl (List.length (Prod.fst x_1)) (1 : Nat) (natG IntKind.i64 (Prod.fst x_1)), AV.sl (List.length (Prod.snd x_1)) (1 : Nat) (natG IntKind.i64 (Prod.snd x_1))] ∧ Ten.dig (Prod.fst x_1) ∧ Ten.dig (Prod.snd x_1) ∧ List.length (Prod.fst x_1) < (274877906944 : Nat) ∧ List.length (Prod.snd x_1) < (274877906944 : Nat) ∧ (0 : Nat) < Ten.val (Prod.snd x_1)) fun (n : List Nat × List Nat) => Tree.all (fun (r : List Nat × List Nat) => List.length (Prod.fst r) = List.length (Prod.fst n) ∧ Ten.dig (Prod.fst r) ∧ Ten.val (Prod.fst r) = Ten.val (Prod.fst n) / Ten.val (Prod.snd n) ∧ List.length (Prod.snd r) ≤ List.length (Prod.fst n) ∧ Ten.dig (Prod.snd r) ∧ Ten.val (Prod.snd r) = Ten.val (Prod.fst n) % Ten.val (Prod.snd n)) fun (n : List Nat × List Nat) => Tree.leaf (Leaf2.back (0 : Nat) [((7 : Nat), AV.sl (List.length y) (1 : Nat) (natG IntKind.i64 y)), ((10 : Nat), AV.sl (List.length (Prod.snd n)) (1 : Nat) (natG IntKind.i64 (Prod.snd n)))] [])) (Tree.ex (fun (x_1 : List Nat × Bool) => eqL [AV.sl (List.length x) (1 : Nat) (natG IntKind.i64 x), AV.bool false] [AV.sl (List.length (Prod.fst x_1)) (1 : Nat) (natG IntKind.i64 (Prod.fst x_1)), AV.bool (Prod.snd x_1)] ∧ Ten.dig (Prod.fst x_1) ∧ List.length (Prod.fst x_1) < (1099511627776 : Nat)) fun (n : List Nat × Bool) => Tree.all (fun (r : List UInt8) => r = textR (Prod.snd n) (Ten.val (Prod.fst n))) fun (n : List UInt8) => Tree.leaf (Leaf2.ret [AV.str n, AV.int IntKind.i64 (0 : Int)] []))) (by kernel_rfl) ?_
      simp only [Tree.holds, Leafs2, inR, lo, hi]
      refine ⟨y, ⟨by simp [eqG_refl], hy, by omega⟩, ⟨_, rfl⟩, ?_⟩
      rintro _ rfl
      refine ⟨fun h0 => ?_, fun h0 => ?_⟩
      · have hy0 : 0 < Ten.val y := by
          rcases Nat.eq_zero_or_pos (Ten.val y) with h | h
          · rw [h] at h0; simp at h0
          · exact h
        refine ⟨(x, y), ⟨by simp [eqG_refl], hx, hy, by simp only; omega, by simp only; omega, hy0⟩, ?_, ?_⟩
        · obtain ⟨g1, g2, g3⟩ := decs_ex hx (Nat.div_le_self (Ten.val x) (Ten.val y))
          obtain ⟨g4, g5, g6⟩ := decs_ex hx (Nat.mod_le (Ten.val x) (Ten.val y))
          exact ⟨(_, _), g1, g2, g3, Nat.le_of_eq g4, g5, g6⟩
        rintro ⟨q, r⟩ ⟨g1, g2, g3, g4, g5, g6⟩
        simp only at g1 g2 g3 g4 g5 g6
        simp only
        rw [if_pos trivial]
        refine ⟨⟨(y, r), ?_, hy, g5, hyl, Nat.le_trans g4 hxl⟩, ?_, by simp [SRg, natS, eqG_refl], by simp, by kernel_rfl, Nat.zero_le _⟩
        · show Nat.gcd (Ten.val y) (Ten.val r) = _
          rw [g6, ← hg, Nat.gcd_comm (Ten.val x), Nat.gcd_rec (Ten.val y) (Ten.val x), Nat.gcd_comm]
        · show Ten.val r < Ten.val y
          rw [g6]; exact Nat.mod_lt _ hy0
      · have hy0 : Ten.val y = 0 := by
          refine Decidable.byContradiction fun h => ?_
          rw [decide_eq_false h] at h0; simp at h0
        refine ⟨(x, false), ⟨by simp [eqG_refl], hx, by simp only; omega⟩, ⟨_, rfl⟩, ?_⟩
        rintro _ rfl
        rw [hy0, Nat.gcd_zero_right] at hg
        rw [← hg] at hq
        exact RetR.scal hq rfl (by simp [resV])
end Go.Proofs.Try
end

/- The library's search for a byte, and what it means for the contracts. -/
section
set_option linter.unusedVariables false
set_option linter.unusedSimpArgs false
namespace Go.Proofs
set_option maxHeartbeats 1000000 in
set_option maxRecDepth 100000 in
theorem Try.sxIndexByte (s : ByteArray) (c : Int) (w : World) :
    Calls Try.prog 90 #[.string s, .int .u8 c] w fun e w' => e = .returned (.int .i64 (Lib.indexByte s.data.toList c.toNat.toUInt8)) ∧ w' = w := by
  go_enter Try.func90, Try.ntmps90
  go_wp2
  rw [run_callFunc_extern Try.func95 (by kernel_rfl) (by kernel_rfl) (by kernel_rfl) (e := Extern.BytealgIndexByte.indexByte) (by kernel_rfl), Lib.run_indexByteString]
  simp only [Result.andThen]
  rw [Oper.upon_value]
  go_wp2
  go_ret
  exact ⟨rfl, rfl⟩
set_option maxHeartbeats 2000000 in
set_option maxRecDepth 100000 in
theorem Try.sxIndexOne (s : ByteArray) (c : UInt8) (w : World) :
    Calls Try.prog 85 #[.string s, .string ⟨#[c]⟩] w fun e w' => e = .returned (.int .i64 (Lib.indexByte s.data.toList c)) ∧ w' = w := by
  go_enter Try.func85, Try.ntmps85
  go_wp2_with (go_at_call 90; refine (Try.sxIndexByte _ _ _).mono ?_; rintro e w' ⟨rfl, rfl⟩)
  · have h : ([c] == s.toList) = true := by assumption
    go_ret
    refine ⟨?_, rfl⟩
    have e : s.data.toList = [c] := by rw [← Lib.toList_data]; exact (beq_iff_eq.1 h).symm
    rw [e]
    simp [Lib.indexByte]
  · go_ret
    exact ⟨rfl, rfl⟩
end Go.Proofs
end

/- Rationals: splitting and checking. -/
section
set_option linter.unusedVariables false
set_option linter.unusedSimpArgs false
set_option maxRecDepth 100000
open Go Go.Sx Go.Proofs Go.Nov
namespace Go.Proofs.Try
attribute [local simp] eqKV eqA eqA0 eqH eqB eqL eqL0
noncomputable def K71 : List Go.Sx.Item := [.code (Try.f71.body.getD .skip)]
noncomputable def K57 : List Go.Sx.Item := [.code (Try.f57.body.getD .skip)]
noncomputable def K40 : List Go.Sx.Item := [.code (Try.f40.body.getD .skip)]
noncomputable def K41 : List Go.Sx.Item := [.code (Try.f41.body.getD .skip)]
noncomputable def K19 : List Go.Sx.Item := [.code (Try.f19.body.getD .skip)]
noncomputable def K50 : List Go.Sx.Item := [.code (Try.f50.body.getD .skip)]
noncomputable def K48 : List Go.Sx.Item := [.code (Try.f48.body.getD .skip)]
noncomputable def K25 : List Go.Sx.Item := [.code (Try.f25.body.getD .skip)]

theorem indexByte_slash (s : List UInt8) : Lib.indexByte s 47 = if slashN s < s.length then (slashN s : Int) else -1 := by
  induction s with
  | nil => rfl
  | cons c s ih =>
    simp only [Lib.indexByte, slashN, List.findIdx_cons]
    cases h : (c == 47) with
    | true => simp
    | false =>
      simp only [Bool.false_eq_true, if_false, ih, cond_false, List.length_cons]
      show _ = if slashN s + 1 < s.length + 1 then ((slashN s + 1 : Nat) : Int) else -1
      by_cases h2 : slashN s < s.length
      · rw [if_pos h2, if_neg (by simp), if_pos (by omega)]; omega
      · rw [if_neg h2, if_pos (by rfl), if_neg (by omega)]
def indexC : Ctr := ctrP true (fun s : List UInt8 => [.str s, .str [47]]) (fun s => True) (fun s r => r = if slashN s < s.length then (slashN s : Int) else -1) (fun _ (r : Int) => (.int .i64 r, []))
theorem index_ok : CtrOK Try.prog 85 indexC := by
  intro args hc Q hq _
  simp only [indexC, ctrP] at hq
  split at hq
  · obtain ⟨s, ⟨h1, _⟩, _, h3⟩ := hq
    have hq := h3 _ rfl
    simp only [Tree.holds] at hq
    refine CtrAt.le h1 ?_
    intro O w σ vals hg hh hr
    simp only [RepL, Rep] at hr
    obtain ⟨v1, r1, rfl, rfl, v2, r2, rfl, rfl, rfl⟩ := hr
    refine .inl ⟨enters_of Try.func85 (by kernel_rfl) rfl .., ?_⟩
    refine (Try.sxIndexOne ⟨s.toArray⟩ 47 w).mono ?_
    rintro e w' ⟨rfl, rfl⟩
    have hx := indexByte_slash s
    have h0 : σ = [] := List.length_eq_zero_iff.1 hh.len
    subst h0
    refine ⟨_, rfl, _, [], [], hq, ?_, ⟨rfl, fun i j e f a b h => by simp at h, fun i e a h => by simp at h, fun i e b h => by simp at h⟩, hg, Nat.le_refl _, Hold.refl _ _ _, Ext.refl _ _⟩
    simp only [Rep]
    rw [← hx]
  · exact hq.elim
def cutC : Ctr := ctrP true (fun s : List UInt8 => [.str s, .str [47]]) (fun s => s.length < 2 ^ 62) (fun s r => r = cutR s) (fun _ r => (.tup [.str r.1, .str r.2.1, .bool r.2.2], []))
def GC1 : Nat → Option Ctr := fun f => if f = 85 then some indexC else none
theorem GC1_ok : ∀ g c, GC1 g = some c → CtrOK Try.prog g c := by
  intro g c h
  simp only [GC1] at h
  split at h
  · rename_i hg; subst hg; cases h; exact index_ok
  cases h

theorem scut_ok : CtrOK Try.prog 71 cutC := by
  refine fn_ctrP (fn := Try.f71) (c := Try.f71.body.getD .skip) rfl rfl rfl fun s hs O w0 Q hq => ?_
  replace hq := hq _ rfl
  refine SafeK.run (k := K71) hmix GC1_ok [] 400 (T := Tree.ex (fun (x : List UInt8) => eqL [AV.str s, AV.str [(47 : UInt8)]] [AV.str x, AV.str [(47 : UInt8)]] ∧ True) fun (n : List UInt8) => Tree.all (fun (r : Int) => r = if slashN n < List.length n then (↑(slashN n) : Int) else (-1 : Int)) fun (n : Int) => Tree.ite (decide ((0 : Int) ≤ n)) (Tree.side ((0 : Int) ≤ n ∧ n ≤ (↑(List.length s) : Int)) (Tree.side (inR IntKind.i64 (n + (1 : Int))) (Tree.side ((0 : Int) ≤ n + (1 : Int) ∧ n + (1 : Int) ≤ (↑(List.length s) : Int)) (Tree.leaf (Leaf2.ret [AV.str (List.drop (0 : Nat) (List.take (Int.toNat n) s)), AV.str (List.drop (Int.toNat (n + (1 : Int))) (List.take (List.length s) s)), AV.bool true] []))))) (Tree.leaf (Leaf2.ret [AV.str s, AV.str (Array.toList #[]), AV.bool false] []))) (by kernel_rfl) ?_
  simp only [Tree.holds, Leafs2, inR, lo, hi]
  refine ⟨s, ⟨by simp, trivial⟩, ⟨_, rfl⟩, ?_⟩
  rintro _ rfl
  by_cases h : slashN s < s.length
  · simp only [if_pos h]
    rw [cut_yes h] at hq
    refine ⟨fun _ => ⟨by omega, fun _ => ⟨by omega, fun _ => ⟨by omega, fun _ => ?_⟩⟩⟩, fun hn => ?_⟩
    · refine RetR.scal hq rfl ?_
      simp [resV]
    · have := of_decide_eq_false hn; omega
  · simp only [if_neg h]
    rw [cut_no h] at hq
    refine ⟨fun hn => ?_, fun _ => RetR.scal hq rfl (by simp [resV])⟩
    have := of_decide_eq_true hn; omega
def GC2 : Nat → Option Ctr := fun f => if f = 71 then some cutC else none
theorem GC2_ok : ∀ g c, GC2 g = some c → CtrOK Try.prog g c := by
  intro g c h
  simp only [GC2] at h
  split at h
  · rename_i hg; subst hg; cases h; exact scut_ok
  cases h

theorem cut_ok : CtrOK Try.prog 57 cutC := by
  refine fn_ctrP (fn := Try.f57) (c := Try.f57.body.getD .skip) rfl rfl rfl fun s hs O w0 Q hq => ?_
  replace hq := hq _ rfl
  refine SafeK.run (k := K57) hmix GC2_ok [] 400 (T := Tree.ex (fun (x : List UInt8) => eqL [AV.str s, AV.str [(47 : UInt8)]] [AV.str x, AV.str [(47 : UInt8)]] ∧ List.length x < (4611686018427387904 : Nat)) fun (n : List UInt8) => Tree.all (fun (r : List UInt8 × List UInt8 × Bool) => r = cutR n) fun (n : List UInt8 × List UInt8 × Bool) => Tree.leaf (Leaf2.ret [AV.str (Prod.fst n), AV.str (Prod.fst (Prod.snd n)), AV.bool (Prod.snd (Prod.snd n))] [])) (by kernel_rfl) ?_
  simp only [Tree.holds, Leafs2, inR, lo, hi]
  refine ⟨s, ⟨by simp, hs⟩, ⟨_, rfl⟩, ?_⟩
  rintro _ rfl
  exact RetR.scal hq rfl (by simp [resV])
def splitC : Ctr := ctrP true (fun s : List UInt8 => [.str s]) (fun s => s.length < 2 ^ 62) (fun s r => r = cutR s) (fun _ r => (.tup [.str r.1, .str r.2.1, .bool r.2.2], []))
def GC3 : Nat → Option Ctr := fun f => if f = 57 then some cutC else if f = 42 then some checkC else none
theorem GC3_ok : ∀ g c, GC3 g = some c → CtrOK Try.prog g c := by
  intro g c h
  simp only [GC3] at h
  split at h
  · rename_i hg; subst hg; cases h; exact cut_ok
  split at h
  · rename_i hg; subst hg; cases h; exact check_ok
  cases h

theorem split_ok : CtrOK Try.prog 40 splitC := by
  refine fn_ctrP (fn := Try.f40) (c := Try.f40.body.getD .skip) rfl rfl rfl fun s hs O w0 Q hq => ?_
  replace hq := hq _ rfl
  refine SafeK.run (k := K40) hmix GC3_ok [] 400 (T := Tree.ex (fun (x : List UInt8) => eqL [AV.str s, AV.str (Array.toList #[(47 : UInt8)])] [AV.str x, AV.str [(47 : UInt8)]] ∧ List.length x < (4611686018427387904 : Nat)) fun (n : List UInt8) => Tree.all (fun (r : List UInt8 × List UInt8 × Bool) => r = cutR n) fun (n : List UInt8 × List UInt8 × Bool) => Tree.leaf (Leaf2.ret [AV.str (Prod.fst n), AV.str (Prod.fst (Prod.snd n)), AV.bool (Prod.snd (Prod.snd n))] [])) (by kernel_rfl) ?_
  simp only [Tree.holds, Leafs2, inR, lo, hi]
  refine ⟨s, ⟨by simp, hs⟩, ⟨_, rfl⟩, ?_⟩
  rintro _ rfl
  exact RetR.scal hq rfl (by simp [resV])
def formC : Ctr := ctrP true (fun s : List UInt8 => [.str s]) (fun s => s.length < 2 ^ 62) (fun s r => r = if errI s = 12 then 12 else 0) (fun _ (r : Int) => (.int .i64 r, []))
theorem form_ok : CtrOK Try.prog 41 formC := by
  refine fn_ctrP (fn := Try.f41) (c := Try.f41.body.getD .skip) rfl rfl rfl fun s hs O w0 Q hq => ?_
  replace hq := hq _ rfl
  refine SafeK.run (k := K41) hmix GC3_ok [] 400 (T := Tree.ex (fun (x : List UInt8) => eqL [AV.str s] [AV.str x] ∧ List.length x < (4611686018427387904 : Nat)) fun (n : List UInt8) => Tree.all (fun (r : Int) => r = errI n) fun (n : Int) => Tree.ite (!decide (n = (14 : Int))) (Tree.leaf (Leaf2.ret [AV.int IntKind.i64 n] [])) (Tree.leaf (Leaf2.ret [AV.int IntKind.i64 (0 : Int)] []))) (by kernel_rfl) ?_
  simp only [Tree.holds, Leafs2, inR, lo, hi]
  refine ⟨s, ⟨by simp, hs⟩, ⟨_, rfl⟩, ?_⟩
  rintro _ rfl
  rcases errI_cases s with h | h | h <;> simp only [h] at hq ⊢
  all_goals
    refine ⟨fun h => ?_, fun h => ?_⟩
    all_goals first
      | (exfalso; revert h; decide)
      | exact RetR.scal hq rfl (by simp [resV])
def qcheckC : Ctr := ctrP true (fun s : List UInt8 => [.str s]) (fun s => s.length < 2 ^ 62) (fun s r => r = errR s) (fun _ (r : Int) => (.int .i64 r, []))
def GC4 : Nat → Option Ctr := fun f => if f = 40 then some splitC else if f = 41 then some formC else if f = 42 then some checkC else if f = 43 then some gcdC else none
theorem GC4_ok : ∀ g c, GC4 g = some c → CtrOK Try.prog g c := by
  intro g c h
  simp only [GC4] at h
  split at h
  · rename_i hg; subst hg; cases h; exact split_ok
  split at h
  · rename_i hg; subst hg; cases h; exact form_ok
  split at h
  · rename_i hg; subst hg; cases h; exact check_ok
  split at h
  · rename_i hg; subst hg; cases h; exact gcd_ok
  cases h

theorem qcheck_ok : CtrOK Try.prog 19 qcheckC := by
  refine fn_ctrP (fn := Try.f19) (c := Try.f19.body.getD .skip) rfl rfl rfl fun s hs O w0 Q hq => ?_
  replace hq := hq _ rfl
  refine SafeK.run (k := K19) hmix GC4_ok [] 400 (T := Tree.ex (fun (x : List UInt8) => eqL [AV.str s] [AV.str x] ∧ List.length x < (4611686018427387904 : Nat)) fun (n : List UInt8) => Tree.all (fun (r : List UInt8 × List UInt8 × Bool) => r = cutR n) fun (n : List UInt8 × List UInt8 × Bool) => Tree.ex (fun (x : List UInt8) => eqL [AV.str (Prod.fst n)] [AV.str x] ∧ List.length x < (4611686018427387904 : Nat)) fun (n_1 : List UInt8) => Tree.all (fun (r : Int) => r = if errI n_1 = (12 : Int) then (12 : Int) else (0 : Int)) fun (n_2 : Int) => Tree.ex (fun (x : List UInt8) => (!decide (n_2 = (0 : Int))) = false ∧ Prod.snd (Prod.snd n) = true → eqL [AV.str (Prod.fst (Prod.snd n))] [AV.str x] ∧ List.length x < (4611686018427387904 : Nat)) fun (n_3 : List UInt8) => Tree.all (fun (x : Int) => (!decide (n_2 = (0 : Int))) = false ∧ Prod.snd (Prod.snd n) = true → x = if errI n_3 = (12 : Int) then (12 : Int) else (0 : Int)) fun (n_4 : Int) => Tree.side (((!decide (n_2 = (0 : Int))) = false ∧ Prod.snd (Prod.snd n) = true) ∧ (!decide (n_4 = (0 : Int))) = false → (0 : Int) ≤ (0 : Int) ∧ (0 : Int) < (↑(List.length (Prod.fst (Prod.snd n))) : Int)) (Tree.ite (bif !decide (n_2 = (0 : Int)) then true else bif Prod.snd (Prod.snd n) then bif bif bif !decide (n_4 = (0 : Int)) then true else decide ((↑(UInt8.toNat (List.getD (Prod.fst (Prod.snd n)) (0 : Nat) (0 : UInt8))) : Int) = (45 : Int)) then true else decide (Prod.fst (Prod.snd n) = Array.toList #[(48 : UInt8)]) then true else decide (Prod.fst (Prod.snd n) = Array.toList #[(49 : UInt8)]) else false) (Tree.leaf (Leaf2.ret [AV.int IntKind.i64 (12 : Int)] [])) (Tree.ex (fun (x : List UInt8) => eqL [AV.str (Prod.fst n)] [AV.str x] ∧ List.length x < (4611686018427387904 : Nat)) fun (n_5 : List UInt8) => Tree.all (fun (r : Int) => r = errI n_5) fun (n_6 : Int) => Tree.ex (fun (x : List UInt8) => (!decide (n_6 = (0 : Int))) = false ∧ Prod.snd (Prod.snd n) = true → eqL [AV.str (Prod.fst (Prod.snd n))] [AV.str x] ∧ List.length x < (4611686018427387904 : Nat)) fun (n_7 : List UInt8) => Tree.all (fun (x : Int) => (!decide (n_6 = (0 : Int))) = false ∧ Prod.snd (Prod.snd n) = true → x = errI n_7) fun (n_8 : Int) => Tree.ite (bif !decide (n_6 = (0 : Int)) then true else bif Prod.snd (Prod.snd n) then !decide (n_8 = (0 : Int)) else false) (Tree.leaf (Leaf2.ret [AV.int IntKind.i64 (14 : Int)] [])) (Tree.ite (Prod.snd (Prod.snd n)) (Tree.ex (fun (x : List UInt8 × List UInt8) => eqL [AV.str (Prod.fst n), AV.str (Prod.fst (Prod.snd n))] [AV.str (Prod.fst x), AV.str (Prod.snd x)] ∧ List.length (Prod.fst x) < (4611686018427387904 : Nat) ∧ List.length (Prod.snd x) < (4611686018427387904 : Nat)) fun (n : List UInt8 × List UInt8) => Tree.all (fun (r : List UInt8 × Int) => r = gcdR (Prod.fst n) (Prod.snd n)) fun (n : List UInt8 × Int) => Tree.ite (!decide (Prod.fst n = Array.toList #[(49 : UInt8)])) (Tree.leaf (Leaf2.ret [AV.int IntKind.i64 (12 : Int)] [])) (Tree.leaf (Leaf2.ret [AV.int IntKind.i64 (0 : Int)] []))) (Tree.leaf (Leaf2.ret [AV.int IntKind.i64 (0 : Int)] [])))))) (by kernel_rfl) ?_
  simp only [Tree.holds, Leafs2, inR, lo, hi]
  refine ⟨s, ⟨by simp, hs⟩, ⟨_, rfl⟩, ?_⟩
  rintro _ rfl
  have hlen := cut_len s
  have hno : (cutR s).2.2 = false → (cutR s).1 = s := by
    intro h
    unfold cutR at h ⊢
    split at h
    · cases h
    · rename_i hn; rw [if_neg hn]
  simp only [errR] at hq
  generalize cutR s = c at hq hlen hno ⊢
  obtain ⟨n, d, f⟩ := c
  simp only at hq hlen hno ⊢
  refine ⟨n, ⟨by simp, by omega⟩, ⟨_, rfl⟩, ?_⟩
  rintro _ rfl
  refine ⟨d, fun _ => ⟨by simp, by omega⟩, ⟨_, fun _ => rfl⟩, ?_⟩
  intro fd hfd
  cases f with
  | false =>
    have hn := hno rfl
    subst hn
    rw [if_neg (by decide)] at hq
    refine ⟨fun h => by simp at h, fun _ => ⟨fun h => ?_, fun h => ?_⟩⟩
    · rcases errI_cases n with e | e | e <;> rw [e] at hq h
      · simp at h
      · exact RetR.scal hq rfl (by simp [resV])
      · simp at h
    · have hn12 : errI n ≠ 12 := by
        intro e; rw [e] at h; simp at h
      refine ⟨n, ⟨by simp, by omega⟩, ⟨_, rfl⟩, ?_⟩
      rintro _ rfl
      refine ⟨d, fun _ => ⟨by simp, by omega⟩, ⟨_, fun _ => rfl⟩, ?_⟩
      intro fd2 _
      refine ⟨fun h => ?_, fun h => ⟨fun h => (by cases h), fun _ => ?_⟩⟩
      · rcases errI_cases n with e | e | e
        · rw [e] at h; simp at h
        · exact absurd e hn12
        · rw [e] at hq; exact RetR.scal hq rfl (by simp [resV])
      · rcases errI_cases n with e | e | e
        · rw [e] at hq; exact RetR.scal hq rfl (by simp [resV])
        · exact absurd e hn12
        · rw [e] at h; simp at h
  | true =>
    rw [if_pos rfl] at hq
    by_cases hn : errI n = 12
    · rw [if_pos (.inl hn)] at hq
      simp only [hn]
      refine ⟨fun h => by simp at h, fun _ => ⟨fun _ => RetR.scal hq rfl (by simp [resV]), fun h => by simp at h⟩⟩
    · rw [if_neg hn] at hfd ⊢
      have hfd := hfd ⟨by simp, rfl⟩
      subst hfd
      by_cases hd : errI d = 12
      · rw [if_pos (.inr (.inl hd))] at hq
        rw [if_pos hd]
        refine ⟨fun h => by simp at h, fun _ => ⟨fun _ => RetR.scal hq rfl (by simp [resV]), fun h => by simp at h⟩⟩
      · rw [if_neg hd]
        have hd0 : d ≠ [] := by rintro rfl; exact hd errI_nil
        have hneg := parse_neg hd0
        have hneg2 : decide (((d.getD 0 0).toNat : Int) = 45) = negI d := by
          rw [hneg]
          by_cases h : d.getD 0 0 = 45
          · rw [h]; rfl
          · rw [decide_eq_false h]
            refine decide_eq_false fun h2 => h (u8_eq ?_)
            rw [h2]; rfl
        rw [hneg2]
        refine ⟨fun _ => by have := List.length_pos_iff.2 hd0; omega, fun _ => ⟨fun h => ?_, fun h => ?_⟩⟩
        · have : negI d = true ∨ d = [48] ∨ d = [49] := by
            revert h
            cases negI d <;> simp
          rw [if_pos (.inr (.inr this))] at hq
          exact RetR.scal hq rfl (by simp [resV])
        · have : ¬ (errI n = 12 ∨ errI d = 12 ∨ negI d = true ∨ d = [48] ∨ d = [49]) := by
            revert h
            cases negI d <;> simp [hn, hd]
          rw [if_neg this] at hq
          refine ⟨n, ⟨by simp, by omega⟩, ⟨_, rfl⟩, ?_⟩
          rintro _ rfl
          refine ⟨d, fun _ => ⟨by simp, by omega⟩, ⟨_, fun _ => rfl⟩, ?_⟩
          intro ed hed
          by_cases hn0 : errI n = 0
          · have hed := hed ⟨by simp [hn0], rfl⟩
            subst hed
            by_cases hd0 : errI d = 0
            · rw [if_neg (by simp [hn0, hd0])] at hq
              refine ⟨fun h => by simp [hn0, hd0] at h, fun _ => ⟨fun _ => ?_, fun h => by cases h⟩⟩
              refine ⟨(n, d), ⟨by simp, by simp only; omega, by simp only; omega⟩, ⟨_, rfl⟩, ?_⟩
              rintro _ rfl
              refine ⟨fun h => ?_, fun h => ?_⟩
              · rw [if_pos (by simpa using h)] at hq
                exact RetR.scal hq rfl (by simp [resV])
              · rw [if_neg (by simpa using h)] at hq
                exact RetR.scal hq rfl (by simp [resV])
            · rw [if_pos (.inr hd0)] at hq
              refine ⟨fun _ => RetR.scal hq rfl (by simp [resV]), fun h => by simp [hn0, hd0] at h⟩
          · rw [if_pos (.inl hn0)] at hq
            refine ⟨fun _ => RetR.scal hq rfl (by simp [resV]), fun h => by simp [hn0] at h⟩

def slashC : Ctr := ctrP true (fun s : List UInt8 => [.str s]) (fun s => s.length < 2 ^ 62) (fun s r => r = if slashN s < s.length then (slashN s : Int) else -1) (fun _ (r : Int) => (.int .i64 r, []))
def SSl (s : List UInt8) (i : Nat) : KV := [(0, .str s), (3, .int .i64 (i : Int))]
theorem slash_ok : CtrOK Try.prog 50 slashC := by
  refine fn_ctrP (fn := Try.f50) (c := Try.f50.body.getD .skip) rfl rfl rfl fun s hs O w0 Q hq => ?_
  replace hq := hq _ rfl
  refine SafeK.run (k := K50) hmix noG_ok [0, 3] 400 (T := Tree.leaf (Leaf2.loop (Prod.fst (lps K50 (0 : Nat))) (Prod.snd (lps K50 (0 : Nat))) [((0 : Nat), AV.str s), ((3 : Nat), AV.int IntKind.i64 (0 : Int))] [])) (by kernel_rfl) ?_
  simp only [Tree.holds, Leafs2, inR, lo, hi]
  refine SafeK.loop (ι := {i : Nat // i ≤ s.length ∧ ∀ j, j < i → s.getD j 0 ≠ 47}) (fun i => SSl s i.1) (fun _ => []) (fun i => s.length - i.1) ⟨0, Nat.zero_le _, fun j hj => by omega⟩ 0 ?_ ?_ (by kernel_rfl)
  · exact ⟨by simp [SSl], by simp, by kernel_rfl, Nat.zero_le _⟩
  · rintro ⟨i, hil, hib⟩
    refine SafeK.run (k := inside K50 0) hmix noG_ok [0, 3] 400 (T := Tree.ite (decide ((↑i : Int) < (↑(List.length s) : Int))) (Tree.side ((0 : Int) ≤ (↑i : Int) ∧ (↑i : Int) < (↑(List.length s) : Int)) (Tree.ite (decide ((↑(UInt8.toNat (List.getD s (Int.toNat (↑i : Int)) (0 : UInt8))) : Int) = (47 : Int))) (Tree.leaf (Leaf2.ret [AV.int IntKind.i64 (↑i : Int)] [])) (Tree.side (inR IntKind.i64 ((↑i : Int) + (1 : Int))) (Tree.leaf (Leaf2.back (0 : Nat) [((0 : Nat), AV.str s), ((3 : Nat), AV.int IntKind.i64 ((↑i : Int) + (1 : Int)))] []))))) (Tree.leaf (Leaf2.ret [AV.int IntKind.i64 (-1 : Int)] []))) (by kernel_rfl) ?_
    simp only [Tree.holds, Leafs2, inR, lo, hi, Int.toNat_natCast]
    refine ⟨fun hlt => ?_, fun hge => ?_⟩
    · have hlt : i < s.length := by have := of_decide_eq_true hlt; omega
      refine ⟨by omega, fun _ => ⟨fun h => ?_, fun h => ⟨by omega, fun _ => ?_⟩⟩⟩
      · have h : s.getD i 0 = 47 := u8_eq (of_decide_eq_true h)
        have e := slash_is hlt h hib
        rw [if_pos (by omega), e] at hq
        exact RetR.scal hq rfl (by simp [resV])
      · have h : s.getD i 0 ≠ 47 := by
          intro h2
          exact of_decide_eq_false h (by rw [h2]; rfl)
        rw [if_pos trivial]
        refine ⟨⟨i + 1, hlt, fun j hj => ?_⟩, by show s.length - (i + 1) < s.length - i; omega, by simp [SSl], by simp, by kernel_rfl, Nat.zero_le _⟩
        rcases Nat.lt_or_ge j i with h1 | h1
        · exact hib j h1
        · have : j = i := by omega
          rw [this]; exact h
    · have hge : i = s.length := by have := of_decide_eq_false hge; omega
      subst hge
      have e := slash_none hib
      rw [if_neg (by omega)] at hq
      exact RetR.scal hq rfl (by simp [resV])
def writtenC : Ctr := ctrP true (fun s : List UInt8 => [.str s]) (fun s => s.length < 2 ^ 62) (fun s r => r = ((cutR s).1, if (cutR s).2.2 then (cutR s).2.1 else [49])) (fun _ r => (.tup [.str r.1, .str r.2], []))
def GQ1 : Nat → Option Ctr := fun f => if f = 50 then some slashC else none
theorem GQ1_ok : ∀ g c, GQ1 g = some c → CtrOK Try.prog g c := by
  intro g c h
  simp only [GQ1] at h
  split at h
  · rename_i hg; subst hg; cases h; exact slash_ok
  cases h

theorem written_ok : CtrOK Try.prog 48 writtenC := by
  refine fn_ctrP (fn := Try.f48) (c := Try.f48.body.getD .skip) rfl rfl rfl fun s hs O w0 Q hq => ?_
  replace hq := hq _ rfl
  refine SafeK.run (k := K48) hmix GQ1_ok [] 400 (T := Tree.ex (fun (x : List UInt8) => eqL [AV.str s] [AV.str x] ∧ List.length x < (4611686018427387904 : Nat)) fun (n : List UInt8) => Tree.all (fun (r : Int) => r = if slashN n < List.length n then (↑(slashN n) : Int) else (-1 : Int)) fun (n : Int) => Tree.ite (decide (n < (0 : Int))) (Tree.leaf (Leaf2.ret [AV.str s, AV.str (Array.toList #[(49 : UInt8)])] [])) (Tree.side ((0 : Int) ≤ n ∧ n ≤ (↑(List.length s) : Int)) (Tree.side (inR IntKind.i64 (n + (1 : Int))) (Tree.side ((0 : Int) ≤ n + (1 : Int) ∧ n + (1 : Int) ≤ (↑(List.length s) : Int)) (Tree.leaf (Leaf2.ret [AV.str (List.drop (0 : Nat) (List.take (Int.toNat n) s)), AV.str (List.drop (Int.toNat (n + (1 : Int))) (List.take (List.length s) s))] [])))))) (by kernel_rfl) ?_
  simp only [Tree.holds, Leafs2, inR, lo, hi]
  refine ⟨s, ⟨by simp, hs⟩, ⟨_, rfl⟩, ?_⟩
  rintro _ rfl
  by_cases h : slashN s < s.length
  · simp only [if_pos h]
    rw [cut_yes h] at hq
    refine ⟨fun hn => ?_, fun hn => ?_⟩
    · have := of_decide_eq_true hn; omega
    · refine ⟨by omega, fun _ => ⟨by omega, fun _ => ⟨by omega, fun _ => ?_⟩⟩⟩
      exact RetR.scal hq rfl (by simp [resV])
  · simp only [if_neg h]
    rw [cut_no h] at hq
    refine ⟨fun hn => RetR.scal hq rfl (by simp [resV]), fun hn => ?_⟩
    have := of_decide_eq_false hn; omega
def qrcheckC : Ctr := ctrP true (fun s : List UInt8 => [.str s]) (fun s => s.length < 2 ^ 40) (fun s r => r = errR s) (fun _ (r : Int) => (.int .i64 r, []))
def GQ2 : Nat → Option Ctr := fun f => if f = 50 then some slashC else if f = 48 then some writtenC else if f = 49 then some digitsC else if f = 51 then some rgcdC else none
theorem GQ2_ok : ∀ g c, GQ2 g = some c → CtrOK Try.prog g c := by
  intro g c h
  simp only [GQ2] at h
  split at h
  · rename_i hg; subst hg; cases h; exact slash_ok
  split at h
  · rename_i hg; subst hg; cases h; exact written_ok
  split at h
  · rename_i hg; subst hg; cases h; exact digits_ok
  split at h
  · rename_i hg; subst hg; cases h; exact rgcd_ok
  cases h

theorem qrcheck_ok : CtrOK Try.prog 25 qrcheckC := by
  refine fn_ctrP (fn := Try.f25) (c := Try.f25.body.getD .skip) rfl rfl rfl fun s hs O w0 Q hq => ?_
  replace hq := hq _ rfl
  refine SafeK.run (k := K25) hmix GQ2_ok [] 400 (T := Tree.ex (fun (x : List UInt8) => eqL [AV.str s] [AV.str x] ∧ List.length x < (4611686018427387904 : Nat)) fun (n : List UInt8) => Tree.all (fun (r : List UInt8 × List UInt8) => r = (Prod.fst (cutR n), if Prod.snd (Prod.snd (cutR n)) = true then Prod.fst (Prod.snd (cutR n)) else [(49 : UInt8)])) fun (n : List UInt8 × List UInt8) => Tree.ex (fun (x : List UInt8) => eqL [AV.str (Prod.fst n)] [AV.str x] ∧ List.length x < (1099511627776 : Nat)) fun (n_1 : List UInt8) => Tree.all (fun (r : List Nat × Bool × Bool) => r = digR n_1) fun (n_2 : List Nat × Bool × Bool) => Tree.ex (fun (x : List UInt8) => eqL [AV.str (Prod.snd n)] [AV.str x] ∧ List.length x < (1099511627776 : Nat)) fun (n_3 : List UInt8) => Tree.all (fun (r : List Nat × Bool × Bool) => r = digR n_3) fun (n_4 : List Nat × Bool × Bool) => Tree.ex (fun (x : List UInt8) => (bif bif bif !Prod.snd (Prod.snd n_2) then true else !Prod.snd (Prod.snd n_4) then true else Prod.fst (Prod.snd n_4) then true else decide (Prod.snd n = Array.toList #[(48 : UInt8)])) = false → eqL [AV.str s] [AV.str x] ∧ List.length x < (4611686018427387904 : Nat)) fun (n_5 : List UInt8) => Tree.all (fun (x : Int) => (bif bif bif !Prod.snd (Prod.snd n_2) then true else !Prod.snd (Prod.snd n_4) then true else Prod.fst (Prod.snd n_4) then true else decide (Prod.snd n = Array.toList #[(48 : UInt8)])) = false → x = if slashN n_5 < List.length n_5 then (↑(slashN n_5) : Int) else (-1 : Int)) fun (n_6 : Int) => Tree.ite (bif bif bif bif !Prod.snd (Prod.snd n_2) then true else !Prod.snd (Prod.snd n_4) then true else Prod.fst (Prod.snd n_4) then true else decide (Prod.snd n = Array.toList #[(48 : UInt8)]) then true else bif decide ((0 : Int) ≤ n_6) then decide (Prod.snd n = Array.toList #[(49 : UInt8)]) else false) (Tree.leaf (Leaf2.ret [AV.int IntKind.i64 (12 : Int)] [])) (Tree.ite (bif decide ((1000 : Int) < (↑(List.length (Prod.fst n_2)) : Int)) then true else decide ((1000 : Int) < (↑(List.length (Prod.fst n_4)) : Int))) (Tree.leaf (Leaf2.ret [AV.int IntKind.i64 (14 : Int)] [])) (Tree.ex (fun (x : List UInt8 × List UInt8) => eqL [AV.str (Prod.fst n), AV.str (Prod.snd n)] [AV.str (Prod.fst x), AV.str (Prod.snd x)] ∧ List.length (Prod.fst x) < (1099511627776 : Nat) ∧ List.length (Prod.snd x) < (1099511627776 : Nat)) fun (n : List UInt8 × List UInt8) => Tree.all (fun (r : List UInt8 × Int) => r = gcdR (Prod.fst n) (Prod.snd n)) fun (n : List UInt8 × Int) => Tree.ex (fun (x : List UInt8) => eqL [AV.str s] [AV.str x] ∧ List.length x < (4611686018427387904 : Nat)) fun (n_7 : List UInt8) => Tree.all (fun (r : Int) => r = if slashN n_7 < List.length n_7 then (↑(slashN n_7) : Int) else (-1 : Int)) fun (n_8 : Int) => Tree.ite (bif decide ((0 : Int) ≤ n_8) then !decide (Prod.fst n = Array.toList #[(49 : UInt8)]) else false) (Tree.leaf (Leaf2.ret [AV.int IntKind.i64 (12 : Int)] [])) (Tree.leaf (Leaf2.ret [AV.int IntKind.i64 (0 : Int)] []))))) (by kernel_rfl) ?_
  simp only [Tree.holds, Leafs2, inR, lo, hi]
  refine ⟨s, ⟨by simp, by omega⟩, ⟨_, rfl⟩, ?_⟩
  rintro _ rfl
  have hlen := cut_len s
  have hfl := cut_flag s
  have hno : (cutR s).2.2 = false → (cutR s).1 = s := by
    intro h
    unfold cutR at h ⊢
    split at h
    · cases h
    · rename_i hn; rw [if_neg hn]
  simp only [errR] at hq
  generalize cutR s = c at hq hlen hfl hno ⊢
  obtain ⟨n, d, f⟩ := c
  simp only at hq hlen hfl hno ⊢
  obtain ⟨e, he⟩ : ∃ e, (if f = true then d else [49]) = e := ⟨_, rfl⟩
  have hel : e.length < 1099511627776 := by
    rw [← he]; split
    · omega
    · simp
  simp only [he]
  refine ⟨n, ⟨by simp, by omega⟩, ⟨_, rfl⟩, ?_⟩
  rintro _ rfl
  refine ⟨e, ⟨by simp, by omega⟩, ⟨_, rfl⟩, ?_⟩
  rintro _ rfl
  refine ⟨s, fun _ => ⟨by simp, by omega⟩, ⟨_, fun _ => rfl⟩, ?_⟩
  intro sv hsv
  rcases digR_cases n with ⟨hn1, hn2⟩ | ⟨hn1, ln, hn2, hn3⟩
  · have hq : Q (.int .i64 12, []) := by
      cases f with
      | false => rw [if_neg (by decide), ← hno rfl, hn1] at hq; exact hq
      | true => rw [if_pos rfl, if_pos (.inl hn1)] at hq; exact hq
    simp only [hn2]
    exact ⟨fun _ => RetR.scal hq rfl (by simp [resV]), fun h => by simp at h⟩
  rcases digR_cases e with ⟨he1, he2⟩ | ⟨he1, le, he2, he3⟩
  · have hq : Q (.int .i64 12, []) := by
      cases f with
      | false => rw [if_neg (by decide)] at he; subst he; exact absurd he1 (by decide)
      | true =>
        rw [if_pos rfl] at he; subst he
        rw [if_pos rfl, if_pos (.inr (.inl he1))] at hq; exact hq
    simp only [hn2, he2]
    exact ⟨fun _ => RetR.scal hq rfl (by simp [resV]), fun h => by simp at h⟩
  simp only [hn2, he2, Bool.not_true, cond_false] at hsv ⊢
  cases f with
  | false =>
    rw [if_neg (by decide)] at he hq
    subst he
    have hnn : negI [49] = false := by decide
    have h49 : errI [49] = 0 := by decide
    have hs := hno rfl
    subst hs
    simp only [hnn, cond_false] at hsv ⊢
    have hsv := hsv (by decide)
    rw [← hsv] at hfl
    rw [← hfl, hn3, he3, h49]
    refine ⟨fun h => by simp at h, fun _ => ⟨fun h => ?_, fun h => ?_⟩⟩
    · rcases errI_cases n with e | e | e
      · rw [e] at h; simp at h
      · exact absurd e hn1
      · rw [e] at hq; exact RetR.scal hq rfl (by simp [resV])
    · have h0 : errI n = 0 := by
        rcases errI_cases n with e | e | e
        · exact e
        · exact absurd e hn1
        · rw [e] at h; simp at h
      rw [h0] at hq
      refine ⟨(n, [49]), ⟨by simp, by simp only; omega, by simp⟩, ⟨_, rfl⟩, ?_⟩
      rintro _ rfl
      refine ⟨n, ⟨by simp, by omega⟩, ⟨_, rfl⟩, ?_⟩
      rintro _ rfl
      rw [← hsv, ← hfl]
      refine ⟨fun h => by simp at h, fun _ => RetR.scal hq rfl (by simp [resV])⟩
  | true =>
    rw [if_pos rfl] at he hq
    subst he
    cases hng : negI d with
    | true =>
      rw [if_pos (.inr (.inr (.inl hng)))] at hq
      exact ⟨fun _ => RetR.scal hq rfl (by simp [resV]), fun h => by simp at h⟩
    | false =>
      simp only [hng, cond_false] at hsv ⊢
      by_cases h48 : d = [48]
      · rw [if_pos (.inr (.inr (.inr (.inl h48))))] at hq
        rw [decide_eq_true h48]
        exact ⟨fun _ => RetR.scal hq rfl (by simp [resV]), fun h => by simp at h⟩
      · rw [decide_eq_false h48] at hsv ⊢
        have hsv := hsv rfl
        rw [← hsv] at hfl
        rw [← hfl]
        simp only [cond_false, cond_true]
        by_cases h49 : d = [49]
        · rw [if_pos (.inr (.inr (.inr (.inr h49))))] at hq
          rw [decide_eq_true h49]
          exact ⟨fun _ => RetR.scal hq rfl (by simp [resV]), fun h => by simp at h⟩
        · rw [decide_eq_false h49]
          rw [if_neg (by simp [hn1, he1, hng, h48, h49])] at hq
          refine ⟨fun h => (by cases h), fun _ => ?_⟩
          rw [hn3, he3]
          by_cases hn0 : errI n = 0
          · by_cases hd0 : errI d = 0
            · rw [if_neg (by simp [hn0, hd0])] at hq
              refine ⟨fun h => by simp [hn0, hd0] at h, fun _ => ?_⟩
              refine ⟨(n, d), ⟨by simp, by simp only; omega, by simp only; omega⟩, ⟨_, rfl⟩, ?_⟩
              rintro _ rfl
              refine ⟨s, ⟨by simp, by omega⟩, ⟨_, rfl⟩, ?_⟩
              rintro _ rfl
              rw [← hsv, ← hfl]
              refine ⟨fun h => ?_, fun h => ?_⟩
              · rw [if_pos (by simpa using h)] at hq
                exact RetR.scal hq rfl (by simp [resV])
              · rw [if_neg (by simpa using h)] at hq
                exact RetR.scal hq rfl (by simp [resV])
            · rw [if_pos (.inr hd0)] at hq
              refine ⟨fun _ => RetR.scal hq rfl (by simp [resV]), fun h => by simp [hn0, hd0] at h⟩
          · rw [if_pos (.inl hn0)] at hq
            refine ⟨fun _ => RetR.scal hq rfl (by simp [resV]), fun h => by simp [hn0] at h⟩
end Go.Proofs.Try
end

/- Names and days. -/
section
set_option linter.unusedVariables false
set_option linter.unusedSimpArgs false
set_option maxRecDepth 100000
open Go Go.Sx Go.Proofs Go.Nov
namespace Go.Proofs.Try
attribute [local simp] eqKV eqA eqA0 eqH eqB eqL eqL0
noncomputable def K18 : List Go.Sx.Item := [.code (Try.f18.body.getD .skip)]
noncomputable def K24 : List Go.Sx.Item := [.code (Try.f24.body.getD .skip)]
noncomputable def K39 : List Go.Sx.Item := [.code (Try.f39.body.getD .skip)]
noncomputable def K17 : List Go.Sx.Item := [.code (Try.f17.body.getD .skip)]
noncomputable def K23 : List Go.Sx.Item := [.code (Try.f23.body.getD .skip)]


def withinC : Ctr := ctrP true (fun d : Int => [.int .i64 d]) (fun _ => True) (fun d r => r = dayB d) (fun _ (r : Bool) => (.bool r, []))
theorem within_ok : CtrOK Try.prog 18 withinC := by
  refine fn_ctrP (fn := Try.f18) (c := Try.f18.body.getD .skip) rfl rfl rfl fun d hs O w0 Q hq => ?_
  replace hq := hq _ rfl
  refine SafeK.run (k := K18) hmix noG_ok [] 400 (T := Tree.leaf (Leaf2.ret [AV.bool (bif decide ((0 : Int) ≤ d) then decide (d ≤ (99999 : Int)) else false)] [])) (by kernel_rfl) ?_
  simp only [Tree.holds, Leafs2]
  refine RetR.scal hq rfl ?_
  simp only [resV, dayB]
  cases decide (0 ≤ d) <;> rfl
theorem rday_ok : CtrOK Try.prog 24 withinC := by
  refine fn_ctrP (fn := Try.f24) (c := Try.f24.body.getD .skip) rfl rfl rfl fun d hs O w0 Q hq => ?_
  replace hq := hq _ rfl
  refine SafeK.run (k := K24) hmix noG_ok [] 400 (T := Tree.leaf (Leaf2.ret [AV.bool (bif decide ((0 : Int) ≤ d) then decide (d ≤ (99999 : Int)) else false)] [])) (by kernel_rfl) ?_
  simp only [Tree.holds, Leafs2]
  refine RetR.scal hq rfl ?_
  simp only [resV, dayB]
  cases decide (0 ≤ d) <;> rfl
theorem isL_int (c : UInt8) : (bif bif decide (97 ≤ (c.toNat : Int)) then decide ((c.toNat : Int) ≤ 122) else false then true else bif decide (65 ≤ (c.toNat : Int)) then decide ((c.toNat : Int) ≤ 90) else false) = isL c := by
  have e1 : decide (97 ≤ (c.toNat : Int)) = decide (97 ≤ c.toNat) := decide_eq_decide.2 (by omega)
  have e2 : decide ((c.toNat : Int) ≤ 122) = decide (c.toNat ≤ 122) := decide_eq_decide.2 (by omega)
  have e3 : decide (65 ≤ (c.toNat : Int)) = decide (65 ≤ c.toNat) := decide_eq_decide.2 (by omega)
  have e4 : decide ((c.toNat : Int) ≤ 90) = decide (c.toNat ≤ 90) := decide_eq_decide.2 (by omega)
  rw [e1, e2, e3, e4]
  simp only [isL]
  cases decide (97 ≤ c.toNat) <;> cases decide (c.toNat ≤ 122) <;> cases decide (65 ≤ c.toNat) <;> rfl
def letterC : Ctr := ctrP true (fun c : UInt8 => [.int .u8 (c.toNat : Int)]) (fun _ => True) (fun c r => r = isL c) (fun _ (r : Bool) => (.bool r, []))
theorem letter_ok : CtrOK Try.prog 39 letterC := by
  refine fn_ctrP (fn := Try.f39) (c := Try.f39.body.getD .skip) rfl rfl rfl fun c hs O w0 Q hq => ?_
  replace hq := hq _ rfl
  refine SafeK.run (k := K39) hmix noG_ok [] 400 (T := Tree.leaf (Leaf2.ret [AV.bool (bif bif decide ((97 : Int) ≤ (↑(UInt8.toNat c) : Int)) then decide ((↑(UInt8.toNat c) : Int) ≤ (122 : Int)) else false then true else bif decide ((65 : Int) ≤ (↑(UInt8.toNat c) : Int)) then decide ((↑(UInt8.toNat c) : Int) ≤ (90 : Int)) else false)] [])) (by kernel_rfl) ?_
  simp only [Tree.holds, Leafs2]
  refine RetR.scal hq rfl ?_
  simp only [resV]
  rw [isL_int]
theorem dec_eq_u8 (c d : UInt8) : decide ((c.toNat : Int) = (d.toNat : Int)) = (c == d) := by
  by_cases h : c = d
  · subst h; simp
  · rw [decide_eq_false fun h2 => h (u8_eq h2)]
    simp [h]
theorem isD_bif (c : UInt8) : (bif decide ((c.toNat : Int) < 48) then true else decide (57 < (c.toNat : Int))) = !isD c := by
  rw [Bool.cond_eq_ite]; exact dig_test c
theorem isD_bif2 (c : UInt8) : (bif decide (48 ≤ (c.toNat : Int)) then decide ((c.toNat : Int) ≤ 57) else false) = isD c := by
  have e1 : decide (48 ≤ (c.toNat : Int)) = decide (48 ≤ c.toNat) := decide_eq_decide.2 (by omega)
  have e2 : decide ((c.toNat : Int) ≤ 57) = decide (c.toNat ≤ 57) := decide_eq_decide.2 (by omega)
  rw [e1, e2]; simp only [isD]
  cases decide (48 ≤ c.toNat) <;> cases decide (c.toNat ≤ 57) <;> rfl
theorem isN_test (c : UInt8) : (bif bif bif !isL c then bif decide ((c.toNat : Int) < 48) then true else decide (57 < (c.toNat : Int)) else false then !decide ((c.toNat : Int) = 95) else false then !decide ((c.toNat : Int) = 45) else false) = !isN c := by
  rw [isD_bif]
  have e1 : decide ((c.toNat : Int) = 95) = (c == 95) := dec_eq_u8 c 95
  have e2 : decide ((c.toNat : Int) = 45) = (c == 45) := dec_eq_u8 c 45
  rw [e1, e2]; simp only [isN]
  cases isL c <;> cases isD c <;> cases (c == 95) <;> cases (c == 45) <;> rfl
theorem isN_test2 (c : UInt8) (z : Bool) : (bif !bif bif decide (97 ≤ (c.toNat : Int)) then decide ((c.toNat : Int) ≤ 122) else false then true else bif decide (65 ≤ (c.toNat : Int)) then decide ((c.toNat : Int) ≤ 90) else false then
    bif z then true else !bif bif bif decide (48 ≤ (c.toNat : Int)) then decide ((c.toNat : Int) ≤ 57) else false then true else decide ((c.toNat : Int) = 95) then true else decide ((c.toNat : Int) = 45) else false) = !(isL c || (!z && isN c)) := by
  rw [isL_int, isD_bif2]
  have e1 : decide ((c.toNat : Int) = 95) = (c == 95) := dec_eq_u8 c 95
  have e2 : decide ((c.toNat : Int) = 45) = (c == 45) := dec_eq_u8 c 45
  rw [e1, e2]; simp only [isN]
  cases isL c <;> cases z <;> cases isD c <;> cases (c == 95) <;> cases (c == 45) <;> rfl
theorem isL_isN {c : UInt8} (h : isL c = true) : isN c = true := by simp [isN, h]
def nameC : Ctr := ctrP true (fun s : List UInt8 => [.str s]) (fun s => s.length < 2 ^ 62) (fun s r => r = nameB s) (fun _ (r : Bool) => (.bool r, []))
def GN1 : Nat → Option Ctr := fun f => if f = 39 then some letterC else none
theorem GN1_ok : ∀ g c, GN1 g = some c → CtrOK Try.prog g c := by
  intro g c h
  simp only [GN1] at h
  split at h
  · rename_i hg; subst hg; cases h; exact letter_ok
  cases h

def SNa (s : List UInt8) (i : Nat) : KV := [(0, .str s), (20, .int .i64 (s.length : Int)), (21, .int .i64 (i : Int)), (31, .undef), (32, .undef), (33, .undef), (34, .undef), (35, .undef), (36, .undef), (39, .undef), (40, .undef), (43, .undef), (44, .undef)]
theorem name_loop {O : Nat → Prop} {w0 : World} {Q : AV × Heap → Prop} {Hs : Nat → KV → Heap → Prop} (s : List UInt8) (hs : s.length < 2 ^ 62) (hq : Q (.bool (s.all isN), [])) :
    SafeK Try.prog Try.f17 O 0 w0 [] Hs (RetR nameC 0 Q) (.code (.loop (lps K17 0).1) :: (lps K17 0).2) (mk Try.f17.ntmps (SNa s 0) []) := by
  refine SafeK.loop (ι := {i : Nat // i ≤ s.length ∧ ∀ j, j < i → isN (s.getD j 0) = true}) (fun i => SNa s i.1) (fun _ => []) (fun i => s.length - i.1) ⟨0, Nat.zero_le _, fun j hj => by omega⟩ 0 ?_ ?_ (by kernel_rfl)
  · exact ⟨by simp [SNa], by simp, by kernel_rfl, Nat.zero_le _⟩
  · rintro ⟨i, hil, hib⟩
    refine SafeK.run (k := inside K17 0) hmix GN1_ok [0, 20, 21, 31, 32, 33, 34, 35, 36, 39, 40, 43, 44] 400 (T := Tree.ite (decide ((↑i : Int) < (↑(List.length s) : Int))) (Tree.side ((0 : Int) ≤ (↑i : Int) ∧ (↑i : Int) < (↑(List.length s) : Int)) (Tree.ex (fun (x : UInt8) => eqL [AV.int IntKind.u8 (↑(UInt8.toNat (List.getD s (Int.toNat (↑i : Int)) (0 : UInt8))) : Int)] [AV.int IntKind.u8 (↑(UInt8.toNat x) : Int)] ∧ True) fun (n : UInt8) => Tree.all (fun (r : Bool) => r = isL n) fun (n : Bool) => Tree.ite (bif bif bif !n then bif decide ((↑(UInt8.toNat (List.getD s (Int.toNat (↑i : Int)) (0 : UInt8))) : Int) < (48 : Int)) then true else decide ((57 : Int) < (↑(UInt8.toNat (List.getD s (Int.toNat (↑i : Int)) (0 : UInt8))) : Int)) else false then !decide ((↑(UInt8.toNat (List.getD s (Int.toNat (↑i : Int)) (0 : UInt8))) : Int) = (95 : Int)) else false then !decide ((↑(UInt8.toNat (List.getD s (Int.toNat (↑i : Int)) (0 : UInt8))) : Int) = (45 : Int)) else false) (Tree.leaf (Leaf2.ret [AV.bool false] [])) (Tree.side (inR IntKind.i64 ((↑i : Int) + (1 : Int))) (Tree.leaf (Leaf2.back (0 : Nat) [((0 : Nat), AV.str s), ((20 : Nat), AV.int IntKind.i64 (↑(List.length s) : Int)), ((21 : Nat), AV.int IntKind.i64 ((↑i : Int) + (1 : Int))), ((31 : Nat), AV.undef), ((32 : Nat), AV.undef), ((33 : Nat), AV.undef), ((34 : Nat), AV.undef), ((35 : Nat), AV.undef), ((36 : Nat), AV.undef), ((39 : Nat), AV.undef), ((40 : Nat), AV.undef), ((43 : Nat), AV.undef), ((44 : Nat), AV.undef)] []))))) (Tree.leaf (Leaf2.ret [AV.bool true] []))) (by kernel_rfl) ?_
    simp only [Tree.holds, Leafs2, inR, lo, hi, Int.toNat_natCast]
    refine ⟨fun hlt => ?_, fun hge => ?_⟩
    · have hlt : i < s.length := by have := of_decide_eq_true hlt; omega
      refine ⟨by omega, fun _ => ⟨s.getD i 0, ⟨by simp, trivial⟩, ⟨_, rfl⟩, ?_⟩⟩
      rintro _ rfl
      rw [isN_test]
      refine ⟨fun h => ?_, fun h => ⟨by omega, fun _ => ?_⟩⟩
      · rw [all_getD_not hlt (by simpa using h)] at hq
        exact RetR.scal hq rfl (by simp [resV])
      · rw [if_pos trivial]
        refine ⟨⟨i + 1, hlt, fun j hj => ?_⟩, by show s.length - (i + 1) < s.length - i; omega, by simp [SNa], by simp, by kernel_rfl, Nat.zero_le _⟩
        rcases Nat.lt_or_ge j i with h1 | h1
        · exact hib j h1
        · have : j = i := by omega
          rw [this]; simpa using h
    · have hge : i = s.length := by have := of_decide_eq_false hge; omega
      subst hge
      rw [all_getD hib] at hq
      exact RetR.scal hq rfl (by simp [resV])
theorem name_ok : CtrOK Try.prog 17 nameC := by
  refine fn_ctrP (fn := Try.f17) (c := Try.f17.body.getD .skip) rfl rfl rfl fun s hs O w0 Q hq => ?_
  replace hq := hq _ rfl
  refine SafeK.run (k := K17) hmix GN1_ok [0, 20, 21, 31, 32, 33, 34, 35, 36, 39, 40, 43, 44] 400 (T := Tree.side ((bif decide ((↑(List.length s) : Int) < (1 : Int)) then true else decide ((40 : Int) < (↑(List.length s) : Int))) = false → (0 : Int) ≤ (0 : Int) ∧ (0 : Int) < (↑(List.length s) : Int)) (Tree.ex (fun (x : UInt8) => (bif decide ((↑(List.length s) : Int) < (1 : Int)) then true else decide ((40 : Int) < (↑(List.length s) : Int))) = false → eqL [AV.int IntKind.u8 (↑(UInt8.toNat (List.getD s (0 : Nat) (0 : UInt8))) : Int)] [AV.int IntKind.u8 (↑(UInt8.toNat x) : Int)] ∧ True) fun (n : UInt8) => Tree.all (fun (x : Bool) => (bif decide ((↑(List.length s) : Int) < (1 : Int)) then true else decide ((40 : Int) < (↑(List.length s) : Int))) = false → x = isL n) fun (n : Bool) => Tree.ite (bif bif decide ((↑(List.length s) : Int) < (1 : Int)) then true else decide ((40 : Int) < (↑(List.length s) : Int)) then true else !n) (Tree.leaf (Leaf2.ret [AV.bool false] [])) (Tree.leaf (Leaf2.loop (Prod.fst (lps K17 (0 : Nat))) (Prod.snd (lps K17 (0 : Nat))) [((0 : Nat), AV.str s), ((20 : Nat), AV.int IntKind.i64 (↑(List.length s) : Int)), ((21 : Nat), AV.int IntKind.i64 (0 : Int)), ((31 : Nat), AV.undef), ((32 : Nat), AV.undef), ((33 : Nat), AV.undef), ((34 : Nat), AV.undef), ((35 : Nat), AV.undef), ((36 : Nat), AV.undef), ((39 : Nat), AV.undef), ((40 : Nat), AV.undef), ((43 : Nat), AV.undef), ((44 : Nat), AV.undef)] [])))) (by kernel_rfl) ?_
  simp only [Tree.holds, Leafs2, inR, lo, hi]
  have hd : decide ((s.length : Int) < 1) = !decide (0 < s.length) := by
    by_cases h : 0 < s.length
    · rw [decide_eq_true h, decide_eq_false (by omega)]; rfl
    · rw [decide_eq_false h, decide_eq_true (by omega)]; rfl
  have hd2 : decide (40 < (s.length : Int)) = !decide (s.length ≤ 40) := by
    by_cases h : s.length ≤ 40
    · rw [decide_eq_true h, decide_eq_false (by omega)]; rfl
    · rw [decide_eq_false h, decide_eq_true (by omega)]; rfl
  rw [hd, hd2]
  have hnb : nameB s = (decide (0 < s.length) && decide (s.length ≤ 40) && isL (s.getD 0 0) && s.all isN) := rfl
  cases h1 : decide (0 < s.length) with
  | false =>
    rw [hnb, h1] at hq
    refine ⟨fun h => (by cases h), fun _ => ⟨0, fun h => (by cases h), ⟨false, fun h => (by cases h)⟩, ?_⟩⟩
    intro b _
    exact ⟨fun _ => RetR.scal hq rfl (by simp [resV]), fun h => (by cases h)⟩
  | true =>
    have h1' := of_decide_eq_true h1
    cases h2 : decide (s.length ≤ 40) with
    | false =>
      rw [hnb, h1, h2] at hq
      refine ⟨fun h => (by cases h), fun _ => ⟨0, fun h => (by cases h), ⟨false, fun h => (by cases h)⟩, ?_⟩⟩
      intro b _
      exact ⟨fun _ => RetR.scal hq rfl (by simp [resV]), fun h => (by cases h)⟩
    | true =>
      refine ⟨fun _ => by omega, fun _ => ⟨s.getD 0 0, fun _ => ⟨by simp, trivial⟩, ⟨_, fun _ => rfl⟩, ?_⟩⟩
      intro b hb
      have hb := hb rfl
      subst hb
      cases h3 : isL (s.getD 0 0) with
      | false =>
        rw [hnb, h1, h2, h3] at hq
        exact ⟨fun _ => RetR.scal hq rfl (by simp [resV]), fun h => (by cases h)⟩
      | true =>
        rw [hnb, h1, h2, h3] at hq
        refine ⟨fun h => (by cases h), fun _ => ?_⟩
        exact name_loop s hs hq

def SNr (s : List UInt8) (i : Nat) : KV := [(0, .str s), (3, .int .i64 (i : Int)), (27, .undef), (28, .undef), (31, .undef), (32, .undef), (33, .undef), (34, .undef), (35, .undef), (36, .undef), (41, .undef), (42, .undef), (45, .undef), (46, .undef), (49, .undef), (50, .undef), (55, .undef), (56, .undef), (57, .undef), (58, .undef), (59, .undef), (60, .undef)]
theorem rname_loop {O : Nat → Prop} {w0 : World} {Q : AV × Heap → Prop} {Hs : Nat → KV → Heap → Prop} (s : List UInt8) (hs : s.length < 2 ^ 62) (h0 : 0 < s.length) (hq : Q (.bool (isL (s.getD 0 0) && s.all isN), [])) :
    SafeK Try.prog Try.f23 O 0 w0 [] Hs (RetR nameC 0 Q) (.code (.loop (lps K23 0).1) :: (lps K23 0).2) (mk Try.f23.ntmps (SNr s 0) []) := by
  refine SafeK.loop (ι := {i : Nat // i ≤ s.length ∧ (∀ j, j < i → isN (s.getD j 0) = true) ∧ (0 < i → isL (s.getD 0 0) = true)}) (fun i => SNr s i.1) (fun _ => []) (fun i => s.length - i.1) ⟨0, Nat.zero_le _, fun j hj => by omega, fun h => by omega⟩ 0 ?_ ?_ (by kernel_rfl)
  · exact ⟨by simp [SNr], by simp, by kernel_rfl, Nat.zero_le _⟩
  · rintro ⟨i, hil, hib, hi0⟩
    refine SafeK.run (k := inside K23 0) hmix noG_ok [0, 3, 27, 28, 31, 32, 33, 34, 35, 36, 41, 42, 45, 46, 49, 50, 55, 56, 57, 58, 59, 60] 400 (T := Tree.ite (decide ((↑i : Int) < (↑(List.length s) : Int))) (Tree.side ((0 : Int) ≤ (↑i : Int) ∧ (↑i : Int) < (↑(List.length s) : Int)) (Tree.ite (bif !bif bif decide ((97 : Int) ≤ (↑(UInt8.toNat (List.getD s (Int.toNat (↑i : Int)) (0 : UInt8))) : Int)) then decide ((↑(UInt8.toNat (List.getD s (Int.toNat (↑i : Int)) (0 : UInt8))) : Int) ≤ (122 : Int)) else false then true else bif decide ((65 : Int) ≤ (↑(UInt8.toNat (List.getD s (Int.toNat (↑i : Int)) (0 : UInt8))) : Int)) then decide ((↑(UInt8.toNat (List.getD s (Int.toNat (↑i : Int)) (0 : UInt8))) : Int) ≤ (90 : Int)) else false then bif decide ((↑i : Int) = (0 : Int)) then true else !bif bif bif decide ((48 : Int) ≤ (↑(UInt8.toNat (List.getD s (Int.toNat (↑i : Int)) (0 : UInt8))) : Int)) then decide ((↑(UInt8.toNat (List.getD s (Int.toNat (↑i : Int)) (0 : UInt8))) : Int) ≤ (57 : Int)) else false then true else decide ((↑(UInt8.toNat (List.getD s (Int.toNat (↑i : Int)) (0 : UInt8))) : Int) = (95 : Int)) then true else decide ((↑(UInt8.toNat (List.getD s (Int.toNat (↑i : Int)) (0 : UInt8))) : Int) = (45 : Int)) else false) (Tree.leaf (Leaf2.ret [AV.bool false] [])) (Tree.side (inR IntKind.i64 ((↑i : Int) + (1 : Int))) (Tree.leaf (Leaf2.back (0 : Nat) [((0 : Nat), AV.str s), ((3 : Nat), AV.int IntKind.i64 ((↑i : Int) + (1 : Int))), ((27 : Nat), AV.undef), ((28 : Nat), AV.undef), ((31 : Nat), AV.undef), ((32 : Nat), AV.undef), ((33 : Nat), AV.undef), ((34 : Nat), AV.undef), ((35 : Nat), AV.undef), ((36 : Nat), AV.undef), ((41 : Nat), AV.undef), ((42 : Nat), AV.undef), ((45 : Nat), AV.undef), ((46 : Nat), AV.undef), ((49 : Nat), AV.undef), ((50 : Nat), AV.undef), ((55 : Nat), AV.undef), ((56 : Nat), AV.undef), ((57 : Nat), AV.undef), ((58 : Nat), AV.undef), ((59 : Nat), AV.undef), ((60 : Nat), AV.undef)] []))))) (Tree.leaf (Leaf2.ret [AV.bool true] []))) (by kernel_rfl) ?_
    simp only [Tree.holds, Leafs2, inR, lo, hi, Int.toNat_natCast]
    refine ⟨fun hlt => ?_, fun hge => ?_⟩
    · have hlt : i < s.length := by have := of_decide_eq_true hlt; omega
      refine ⟨by omega, fun _ => ?_⟩
      rw [isN_test2]
      have hz : decide ((i : Int) = 0) = decide (i = 0) := decide_eq_decide.2 (by omega)
      rw [hz]
      refine ⟨fun h => ?_, fun h => ⟨by omega, fun _ => ?_⟩⟩
      · have hf : (isL (s.getD 0 0) && s.all isN) = false := by
          have h : (isL (s.getD i 0) || (!decide (i = 0) && isN (s.getD i 0))) = false := by simpa only [Bool.not_eq_true'] using h
          rcases Nat.eq_zero_or_pos i with hi | hi
          · subst hi
            have : isL (s.getD 0 0) = false := by
              cases h3 : isL (s.getD 0 0) with
              | false => rfl
              | true => rw [h3] at h; cases h
            rw [this]; rfl
          · rw [decide_eq_false (by omega)] at h
            have : isN (s.getD i 0) = false := by
              cases h3 : isN (s.getD i 0) with
              | false => rfl
              | true => rw [h3] at h; revert h; cases isL (s.getD i 0) <;> intro h <;> cases h
            rw [all_getD_not hlt this]; cases isL (s.getD 0 0) <;> rfl
        rw [hf] at hq
        exact RetR.scal hq rfl (by simp [resV])
      · rw [if_pos trivial]
        have h : (isL (s.getD i 0) || (!decide (i = 0) && isN (s.getD i 0))) = true := by simpa only [Bool.not_eq_false'] using h
        have hN : isN (s.getD i 0) = true := by
          cases h3 : isL (s.getD i 0) with
          | true => exact isL_isN h3
          | false =>
            rw [h3] at h
            revert h; cases decide (i = 0) <;> cases isN (s.getD i 0) <;> simp
        refine ⟨⟨i + 1, hlt, fun j hj => ?_, fun _ => ?_⟩, by show s.length - (i + 1) < s.length - i; omega, by simp [SNr], by simp, by kernel_rfl, Nat.zero_le _⟩
        · rcases Nat.lt_or_ge j i with h1 | h1
          · exact hib j h1
          · have : j = i := by omega
            rw [this]; exact hN
        · rcases Nat.eq_zero_or_pos i with h1 | h1
          · subst h1
            cases h3 : isL (s.getD 0 0) with
            | true => rfl
            | false => rw [h3] at h; cases h
          · exact hi0 h1
    · have hge : i = s.length := by have := of_decide_eq_false hge; omega
      subst hge
      rw [all_getD hib, hi0 h0] at hq
      exact RetR.scal hq rfl (by simp [resV])
theorem rname_ok : CtrOK Try.prog 23 nameC := by
  refine fn_ctrP (fn := Try.f23) (c := Try.f23.body.getD .skip) rfl rfl rfl fun s hs O w0 Q hq => ?_
  replace hq := hq _ rfl
  refine SafeK.run (k := K23) hmix noG_ok [0, 3, 27, 28, 31, 32, 33, 34, 35, 36, 41, 42, 45, 46, 49, 50, 55, 56, 57, 58, 59, 60] 400 (T := Tree.ite (bif decide ((↑(List.length s) : Int) = (0 : Int)) then true else decide ((40 : Int) < (↑(List.length s) : Int))) (Tree.leaf (Leaf2.ret [AV.bool false] [])) (Tree.leaf (Leaf2.loop (Prod.fst (lps K23 (0 : Nat))) (Prod.snd (lps K23 (0 : Nat))) [((0 : Nat), AV.str s), ((3 : Nat), AV.int IntKind.i64 (0 : Int)), ((27 : Nat), AV.undef), ((28 : Nat), AV.undef), ((31 : Nat), AV.undef), ((32 : Nat), AV.undef), ((33 : Nat), AV.undef), ((34 : Nat), AV.undef), ((35 : Nat), AV.undef), ((36 : Nat), AV.undef), ((41 : Nat), AV.undef), ((42 : Nat), AV.undef), ((45 : Nat), AV.undef), ((46 : Nat), AV.undef), ((49 : Nat), AV.undef), ((50 : Nat), AV.undef), ((55 : Nat), AV.undef), ((56 : Nat), AV.undef), ((57 : Nat), AV.undef), ((58 : Nat), AV.undef), ((59 : Nat), AV.undef), ((60 : Nat), AV.undef)] []))) (by kernel_rfl) ?_
  simp only [Tree.holds, Leafs2, inR, lo, hi]
  have hd : decide ((s.length : Int) = 0) = !decide (0 < s.length) := by
    by_cases h : 0 < s.length
    · rw [decide_eq_true h, decide_eq_false (by omega)]; rfl
    · rw [decide_eq_false h, decide_eq_true (by omega)]; rfl
  have hd2 : decide (40 < (s.length : Int)) = !decide (s.length ≤ 40) := by
    by_cases h : s.length ≤ 40
    · rw [decide_eq_true h, decide_eq_false (by omega)]; rfl
    · rw [decide_eq_false h, decide_eq_true (by omega)]; rfl
  rw [hd, hd2]
  have hnb : nameB s = (decide (0 < s.length) && decide (s.length ≤ 40) && isL (s.getD 0 0) && s.all isN) := rfl
  cases h1 : decide (0 < s.length) with
  | false =>
    rw [hnb, h1] at hq
    exact ⟨fun _ => RetR.scal hq rfl (by simp [resV]), fun h => (by cases h)⟩
  | true =>
    cases h2 : decide (s.length ≤ 40) with
    | false =>
      rw [hnb, h1, h2] at hq
      exact ⟨fun _ => RetR.scal hq rfl (by simp [resV]), fun h => (by cases h)⟩
    | true =>
      rw [hnb, h1, h2] at hq
      refine ⟨fun h => (by cases h), fun _ => ?_⟩
      exact rname_loop s hs (of_decide_eq_true h1) hq
end Go.Proofs.Try
end

/- The order of what is known. -/
section
set_option linter.unusedVariables false
set_option linter.unusedSimpArgs false
set_option maxRecDepth 100000
open Go Go.Sx Go.Proofs Go.Nov
namespace Go.Proofs.Try
attribute [local simp] eqKV eqA eqA0 eqH eqB eqL eqL0
noncomputable def K63 : List Go.Sx.Item := [.code (Try.f63.body.getD .skip)]
noncomputable def K64 : List Go.Sx.Item := [.code (Try.f64.body.getD .skip)]
noncomputable def K46 : List Go.Sx.Item := [.code (Try.f46.body.getD .skip)]
noncomputable def K47 : List Go.Sx.Item := [.code (Try.f47.body.getD .skip)]
noncomputable def K45 : List Go.Sx.Item := [.code (Try.f45.body.getD .skip)]
noncomputable def K21 : List Go.Sx.Item := [.code (Try.f21.body.getD .skip)]
noncomputable def K28 : List Go.Sx.Item := [.code (Try.f28.body.getD .skip)]


def nanS : Ctr := ctrP true (fun s : List UInt8 => [.str s]) (fun _ => True) (fun s r => r = false) (fun _ (r : Bool) => (.bool r, []))
def nanI : Ctr := ctrP true (fun x : Int => [.int .i64 x]) (fun _ => True) (fun s r => r = false) (fun _ (r : Bool) => (.bool r, []))
theorem nanS_ok : CtrOK Try.prog 63 nanS := by
  refine fn_ctrP (fn := Try.f63) (c := Try.f63.body.getD .skip) rfl rfl rfl fun s hs O w0 Q hq => ?_
  replace hq := hq _ rfl
  refine SafeK.run (k := K63) hmix noG_ok [] 400 (T := Tree.leaf (Leaf2.ret [AV.bool !decide (s = s)] [])) (by kernel_rfl) ?_
  simp only [Tree.holds, Leafs2]
  exact RetR.scal hq rfl (by simp [resV])
theorem nanI_ok : CtrOK Try.prog 64 nanI := by
  refine fn_ctrP (fn := Try.f64) (c := Try.f64.body.getD .skip) rfl rfl rfl fun s hs O w0 Q hq => ?_
  replace hq := hq _ rfl
  refine SafeK.run (k := K64) hmix noG_ok [] 400 (T := Tree.leaf (Leaf2.ret [AV.bool !decide (s = s)] [])) (by kernel_rfl) ?_
  simp only [Tree.holds, Leafs2]
  exact RetR.scal hq rfl (by simp [resV])
def cmpSC : Ctr := ctrP true (fun p : List UInt8 × List UInt8 => [.str p.1, .str p.2]) (fun _ => True) (fun p r => r = cmpS p.1 p.2) (fun _ (r : Int) => (.int .i64 r, []))
def cmpIC : Ctr := ctrP true (fun p : Int × Int => [.int .i64 p.1, .int .i64 p.2]) (fun _ => True) (fun p r => r = cmpI p.1 p.2) (fun _ (r : Int) => (.int .i64 r, []))
def GN2 : Nat → Option Ctr := fun f => if f = 63 then some nanS else if f = 64 then some nanI else none
theorem GN2_ok : ∀ g c, GN2 g = some c → CtrOK Try.prog g c := by
  intro g c h
  simp only [GN2] at h
  split at h
  · rename_i hg; subst hg; cases h; exact nanS_ok
  split at h
  · rename_i hg; subst hg; cases h; exact nanI_ok
  cases h

theorem cmpS_ok : CtrOK Try.prog 46 cmpSC := by
  refine fn_ctrP (fn := Try.f46) (c := Try.f46.body.getD .skip) rfl rfl rfl fun p hs O w0 Q hq => ?_
  obtain ⟨s, t⟩ := p
  replace hq := hq _ rfl
  simp only at hq
  refine SafeK.run (k := K46) hmix GN2_ok [] 400 (T := Tree.ex (fun (x : List UInt8) => eqL [AV.str s] [AV.str x] ∧ True) fun (n : List UInt8) => Tree.all (fun (r : Bool) => r = false) fun (n : Bool) => Tree.ex (fun (x : List UInt8) => eqL [AV.str t] [AV.str x] ∧ True) fun (n_1 : List UInt8) => Tree.all (fun (r : Bool) => r = false) fun (n_2 : Bool) => Tree.ite n (Tree.ite n_2 (Tree.leaf (Leaf2.ret [AV.int IntKind.i64 (0 : Int)] [])) (Tree.leaf (Leaf2.ret [AV.int IntKind.i64 (-1 : Int)] []))) (Tree.ite n_2 (Tree.leaf (Leaf2.ret [AV.int IntKind.i64 (1 : Int)] [])) (Tree.ite (Op.bytesLess s t) (Tree.leaf (Leaf2.ret [AV.int IntKind.i64 (-1 : Int)] [])) (Tree.ite (!(Op.bytesLess s t || decide (s = t))) (Tree.leaf (Leaf2.ret [AV.int IntKind.i64 (1 : Int)] [])) (Tree.leaf (Leaf2.ret [AV.int IntKind.i64 (0 : Int)] [])))))) (by kernel_rfl) ?_
  simp only [Tree.holds, Leafs2]
  refine ⟨s, ⟨by simp, trivial⟩, ⟨_, rfl⟩, ?_⟩
  rintro _ rfl
  refine ⟨t, ⟨by simp, trivial⟩, ⟨_, rfl⟩, ?_⟩
  rintro _ rfl
  refine ⟨fun h => (by cases h), fun _ => ⟨fun h => (by cases h), fun _ => ⟨fun h => ?_, fun h => ⟨fun h2 => ?_, fun h2 => ?_⟩⟩⟩⟩
  · have : cmpS s t = -1 := by simp [cmpS, h]
    rw [this] at hq; exact RetR.scal hq rfl (by simp [resV])
  · have h2 : s ≠ t := by simpa [h] using h2
    have : cmpS s t = 1 := by simp [cmpS, h, h2]
    rw [this] at hq; exact RetR.scal hq rfl (by simp [resV])
  · have h2 : s = t := by simpa [h] using h2
    subst h2
    have : cmpS s s = 0 := by simp [cmpS, h]
    rw [this] at hq; exact RetR.scal hq rfl (by simp [resV])
theorem cmpI_ok : CtrOK Try.prog 47 cmpIC := by
  refine fn_ctrP (fn := Try.f47) (c := Try.f47.body.getD .skip) rfl rfl rfl fun p hs O w0 Q hq => ?_
  obtain ⟨s, t⟩ := p
  replace hq := hq _ rfl
  simp only at hq
  refine SafeK.run (k := K47) hmix GN2_ok [] 400 (T := Tree.ex (fun (x : Int) => eqL [AV.int IntKind.i64 s] [AV.int IntKind.i64 x] ∧ True) fun (n : Int) => Tree.all (fun (r : Bool) => r = false) fun (n : Bool) => Tree.ex (fun (x : Int) => eqL [AV.int IntKind.i64 t] [AV.int IntKind.i64 x] ∧ True) fun (n_1 : Int) => Tree.all (fun (r : Bool) => r = false) fun (n_2 : Bool) => Tree.ite n (Tree.ite n_2 (Tree.leaf (Leaf2.ret [AV.int IntKind.i64 (0 : Int)] [])) (Tree.leaf (Leaf2.ret [AV.int IntKind.i64 (-1 : Int)] []))) (Tree.ite n_2 (Tree.leaf (Leaf2.ret [AV.int IntKind.i64 (1 : Int)] [])) (Tree.ite (decide (s < t)) (Tree.leaf (Leaf2.ret [AV.int IntKind.i64 (-1 : Int)] [])) (Tree.ite (decide (t < s)) (Tree.leaf (Leaf2.ret [AV.int IntKind.i64 (1 : Int)] [])) (Tree.leaf (Leaf2.ret [AV.int IntKind.i64 (0 : Int)] [])))))) (by kernel_rfl) ?_
  simp only [Tree.holds, Leafs2]
  refine ⟨s, ⟨by simp, trivial⟩, ⟨_, rfl⟩, ?_⟩
  rintro _ rfl
  refine ⟨t, ⟨by simp, trivial⟩, ⟨_, rfl⟩, ?_⟩
  rintro _ rfl
  refine ⟨fun h => (by cases h), fun _ => ⟨fun h => (by cases h), fun _ => ⟨fun h => ?_, fun h => ⟨fun h2 => ?_, fun h2 => ?_⟩⟩⟩⟩
  · have h := of_decide_eq_true h
    have : cmpI s t = -1 := by simp [cmpI, h]
    rw [this] at hq; exact RetR.scal hq rfl (by simp [resV])
  · have h := of_decide_eq_false h
    have h2 := of_decide_eq_true h2
    have : cmpI s t = 1 := by simp [cmpI, h, h2]
    rw [this] at hq; exact RetR.scal hq rfl (by simp [resV])
  · have h := of_decide_eq_false h
    have h2 := of_decide_eq_false h2
    have : cmpI s t = 0 := by simp [cmpI, h, h2]
    rw [this] at hq; exact RetR.scal hq rfl (by simp [resV])
def orC : Ctr := ctrP true (fun l : List Int => [.sl l.length 1 (fun j _ => .int .i64 (l.getD j 0))]) (fun l => l.length < 2 ^ 40) (fun l r => r = orI l) (fun _ (r : Int) => (.int .i64 r, []))
def SOr (l : List Int) (i : Nat) : KV := [(3, .int .i64 0), (6, .sl l.length 1 (fun j _ => .int .i64 (l.getD j 0))), (7, .int .i64 (l.length : Int)), (8, .int .i64 (i : Int))]

theorem or_ok : CtrOK Try.prog 45 orC := by
  refine fn_ctrP (fn := Try.f45) (c := Try.f45.body.getD .skip) rfl rfl rfl fun l hl O w0 Q hq => ?_
  replace hq := hq _ rfl
  refine SafeK.run (k := K45) hmix noG_ok [3, 6, 7, 8] 400 (T := Tree.leaf (Leaf2.loop (Prod.fst (lps K45 (0 : Nat))) (Prod.snd (lps K45 (0 : Nat))) [((3 : Nat), AV.int IntKind.i64 (0 : Int)), ((6 : Nat), AV.sl (List.length l) (1 : Nat) fun (j x : Nat) => AV.int IntKind.i64 (List.getD l j (0 : Int))), ((7 : Nat), AV.int IntKind.i64 (↑(List.length l) : Int)), ((8 : Nat), AV.int IntKind.i64 (0 : Int))] [])) (by kernel_rfl) ?_
  simp only [Tree.holds, Leafs2]
  refine SafeK.loop (ι := {i : Nat // i ≤ l.length ∧ orI (l.drop i) = orI l}) (fun i => SOr l i.1) (fun _ => []) (fun i => l.length - i.1) ⟨0, Nat.zero_le _, rfl⟩ 0 ?_ ?_ (by kernel_rfl)
  · exact ⟨by simp [SOr, eqG_refl], by simp, by kernel_rfl, Nat.zero_le _⟩
  · rintro ⟨i, hil, hio⟩
    refine SafeK.run (k := inside K45 0) hmix noG_ok [3, 6, 7, 8] 400 (T := Tree.ite (decide ((↑i : Int) < (↑(List.length l) : Int))) (Tree.side ((0 : Int) ≤ (↑i : Int) ∧ (↑i : Int) < (↑(List.length l) : Int)) (Tree.ite (!decide (List.getD l (Int.toNat (↑i : Int)) (0 : Int) = (0 : Int))) (Tree.leaf (Leaf2.ret [AV.int IntKind.i64 (List.getD l (Int.toNat (↑i : Int)) (0 : Int))] [])) (Tree.side (inR IntKind.i64 ((↑i : Int) + (1 : Int))) (Tree.leaf (Leaf2.back (0 : Nat) [((3 : Nat), AV.int IntKind.i64 (0 : Int)), ((6 : Nat), AV.sl (List.length l) (1 : Nat) fun (j x : Nat) => AV.int IntKind.i64 (List.getD l j (0 : Int))), ((7 : Nat), AV.int IntKind.i64 (↑(List.length l) : Int)), ((8 : Nat), AV.int IntKind.i64 ((↑i : Int) + (1 : Int)))] []))))) (Tree.leaf (Leaf2.ret [AV.int IntKind.i64 (0 : Int)] []))) (by kernel_rfl) ?_
    simp only [Tree.holds, Leafs2, inR, lo, hi, Int.toNat_natCast]
    refine ⟨fun hlt => ?_, fun hge => ?_⟩
    · have hlt : i < l.length := by have := of_decide_eq_true hlt; omega
      have hd : l.drop i = l.getD i 0 :: l.drop (i + 1) := by
        rw [List.drop_eq_getElem_cons hlt]; simp [List.getD, hlt]
      rw [hd] at hio
      refine ⟨by omega, fun _ => ⟨fun h => ?_, fun h => ⟨by omega, fun _ => ?_⟩⟩⟩
      · have h : l.getD i 0 ≠ 0 := by simpa using h
        have : orI l = l.getD i 0 := by rw [← hio]; simp only [orI]; rw [if_neg h]
        rw [this] at hq; exact RetR.scal hq rfl (by simp [resV])
      · have h : l.getD i 0 = 0 := by simpa using h
        rw [if_pos trivial]
        refine ⟨⟨i + 1, hlt, ?_⟩, by show l.length - (i + 1) < l.length - i; omega, by simp [SOr, eqG_refl], by simp, by kernel_rfl, Nat.zero_le _⟩
        rw [← hio]; simp only [orI]; rw [if_pos h]
    · have hge : i = l.length := by have := of_decide_eq_false hge; omega
      subst hge
      rw [List.drop_length] at hio
      rw [← hio] at hq; exact RetR.scal hq rfl (by simp [resV, orI])
def fixingsC : Ctr := ctrP true (fun p : Fx × Fx => [p.1.av, p.2.av]) (fun _ => True) (fun p r => r = cmpF p.1 p.2) (fun _ (r : Int) => (.int .i64 r, []))
def choicesC : Ctr := ctrP true (fun p : Ch × Ch => [p.1.av, p.2.av]) (fun _ => True) (fun p r => r = cmpC p.1 p.2) (fun _ (r : Int) => (.int .i64 r, []))
def GN3 : Nat → Option Ctr := fun f => if f = 46 then some cmpSC else if f = 47 then some cmpIC else if f = 45 then some orC else none
theorem GN3_ok : ∀ g c, GN3 g = some c → CtrOK Try.prog g c := by
  intro g c h
  simp only [GN3] at h
  split at h
  · rename_i hg; subst hg; cases h; exact cmpS_ok
  split at h
  · rename_i hg; subst hg; cases h; exact cmpI_ok
  split at h
  · rename_i hg; subst hg; cases h; exact or_ok
  cases h

theorem eqG_ints2 (x y : Int) : eqG 2 1 (viewG (listG 1 [.int .i64 x, .int .i64 y]) 0) (fun j _ => .int .i64 ([x, y].getD j 0)) := by
  intro j o hj ho
  have ho : o = 0 := by omega
  subst ho
  rcases j with _ | _ | j
  · rfl
  · rfl
  · omega
theorem eqG_ints3 (x y z : Int) : eqG 3 1 (viewG (listG 1 [.int .i64 x, .int .i64 y, .int .i64 z]) 0) (fun j _ => .int .i64 ([x, y, z].getD j 0)) := by
  intro j o hj ho
  have ho : o = 0 := by omega
  subst ho
  rcases j with _ | _ | _ | j
  · rfl
  · rfl
  · rfl
  · omega
theorem fixings_ok : CtrOK Try.prog 21 fixingsC := by
  refine fn_ctrP (fn := Try.f21) (c := Try.f21.body.getD .skip) rfl rfl rfl fun p hs O w0 Q hq => ?_
  obtain ⟨⟨a, d, v⟩, ⟨b, e, u⟩⟩ := p
  replace hq := hq _ rfl
  simp only at hq
  refine SafeK.run (k := K21) hmix GN3_ok [] 400 (T := Tree.ex (fun (x : List UInt8 × List UInt8) => eqL [AV.str a, AV.str b] [AV.str (Prod.fst x), AV.str (Prod.snd x)] ∧ True) fun (n : List UInt8 × List UInt8) => Tree.all (fun (r : Int) => r = cmpS (Prod.fst n) (Prod.snd n)) fun (n : Int) => Tree.ex (fun (x : Int × Int) => eqL [AV.int IntKind.i64 d, AV.int IntKind.i64 e] [AV.int IntKind.i64 (Prod.fst x), AV.int IntKind.i64 (Prod.snd x)] ∧ True) fun (n_1 : Int × Int) => Tree.all (fun (r : Int) => r = cmpI (Prod.fst n_1) (Prod.snd n_1)) fun (n_2 : Int) => Tree.ex (fun (x : List Int) => eqL [AV.sl (2 : Nat) (1 : Nat) (viewG (listG (1 : Nat) [AV.int IntKind.i64 n, AV.int IntKind.i64 n_2]) (0 : Nat))] [AV.sl (List.length x) (1 : Nat) fun (j x_1 : Nat) => AV.int IntKind.i64 (List.getD x j (0 : Int))] ∧ List.length x < (1099511627776 : Nat)) fun (n_3 : List Int) => Tree.all (fun (r : Int) => r = orI n_3) fun (n_4 : Int) => Tree.leaf (Leaf2.ret [AV.int IntKind.i64 n_4] [Blk.box [AV.str a, AV.int IntKind.i64 d, AV.str v], Blk.box [AV.str b, AV.int IntKind.i64 e, AV.str u], Blk.arr (2 : Nat) (1 : Nat) (listG (1 : Nat) [AV.int IntKind.i64 n, AV.int IntKind.i64 n_2])])) (by kernel_rfl) ?_
  simp only [Tree.holds, Leafs2]
  refine ⟨(a, b), ⟨by simp, trivial⟩, ⟨_, rfl⟩, ?_⟩
  rintro _ rfl
  refine ⟨(d, e), ⟨by simp, trivial⟩, ⟨_, rfl⟩, ?_⟩
  rintro _ rfl
  refine ⟨[cmpS a b, cmpI d e], ⟨⟨⟨rfl, rfl, eqG_ints2 _ _⟩, trivial⟩, by simp⟩, ⟨_, rfl⟩, ?_⟩
  rintro _ rfl
  have : orI [cmpS a b, cmpI d e] = cmpF ⟨a, d, v⟩ ⟨b, e, u⟩ := by
    simp only [orI, cmpF]
    by_cases h : cmpS a b = 0
    · simp only [h, if_true]; split <;> simp_all
    · simp only [if_neg h]
  rw [this]
  exact RetR.scal hq rfl (by simp [resV])
theorem choices_ok : CtrOK Try.prog 28 choicesC := by
  refine fn_ctrP (fn := Try.f28) (c := Try.f28.body.getD .skip) rfl rfl rfl fun p hs O w0 Q hq => ?_
  obtain ⟨⟨a, d, v, f⟩, ⟨b, e, u, g⟩⟩ := p
  replace hq := hq _ rfl
  simp only at hq
  refine SafeK.run (k := K28) hmix GN3_ok [] 400 (T := Tree.ex (fun (x : List UInt8 × List UInt8) => eqL [AV.str a, AV.str b] [AV.str (Prod.fst x), AV.str (Prod.snd x)] ∧ True) fun (n : List UInt8 × List UInt8) => Tree.all (fun (r : Int) => r = cmpS (Prod.fst n) (Prod.snd n)) fun (n : Int) => Tree.ex (fun (x : List UInt8 × List UInt8) => eqL [AV.str d, AV.str e] [AV.str (Prod.fst x), AV.str (Prod.snd x)] ∧ True) fun (n_1 : List UInt8 × List UInt8) => Tree.all (fun (r : Int) => r = cmpS (Prod.fst n_1) (Prod.snd n_1)) fun (n_2 : Int) => Tree.ex (fun (x : Int × Int) => eqL [AV.int IntKind.i64 v, AV.int IntKind.i64 u] [AV.int IntKind.i64 (Prod.fst x), AV.int IntKind.i64 (Prod.snd x)] ∧ True) fun (n_3 : Int × Int) => Tree.all (fun (r : Int) => r = cmpI (Prod.fst n_3) (Prod.snd n_3)) fun (n_4 : Int) => Tree.ex (fun (x : List Int) => eqL [AV.sl (3 : Nat) (1 : Nat) (viewG (listG (1 : Nat) [AV.int IntKind.i64 n, AV.int IntKind.i64 n_2, AV.int IntKind.i64 n_4]) (0 : Nat))] [AV.sl (List.length x) (1 : Nat) fun (j x_1 : Nat) => AV.int IntKind.i64 (List.getD x j (0 : Int))] ∧ List.length x < (1099511627776 : Nat)) fun (n_5 : List Int) => Tree.all (fun (r : Int) => r = orI n_5) fun (n_6 : Int) => Tree.leaf (Leaf2.ret [AV.int IntKind.i64 n_6] [Blk.box [AV.str a, AV.str d, AV.int IntKind.i64 v, AV.bool f], Blk.box [AV.str b, AV.str e, AV.int IntKind.i64 u, AV.bool g], Blk.arr (3 : Nat) (1 : Nat) (listG (1 : Nat) [AV.int IntKind.i64 n, AV.int IntKind.i64 n_2, AV.int IntKind.i64 n_4])])) (by kernel_rfl) ?_
  simp only [Tree.holds, Leafs2]
  refine ⟨(a, b), ⟨by simp, trivial⟩, ⟨_, rfl⟩, ?_⟩
  rintro _ rfl
  refine ⟨(d, e), ⟨by simp, trivial⟩, ⟨_, rfl⟩, ?_⟩
  rintro _ rfl
  refine ⟨(v, u), ⟨by simp, trivial⟩, ⟨_, rfl⟩, ?_⟩
  rintro _ rfl
  refine ⟨[cmpS a b, cmpS d e, cmpI v u], ⟨⟨⟨rfl, rfl, eqG_ints3 _ _ _⟩, trivial⟩, by simp⟩, ⟨_, rfl⟩, ?_⟩
  rintro _ rfl
  have : orI [cmpS a b, cmpS d e, cmpI v u] = cmpC ⟨a, d, v, f⟩ ⟨b, e, u, g⟩ := by
    simp only [orI, cmpC]
    by_cases h : cmpS a b = 0
    · simp only [h, if_true]
      by_cases h2 : cmpS d e = 0
      · simp only [h2, if_true]; split <;> simp_all
      · simp only [if_neg h2]
    · simp only [if_neg h]
  rw [this]
  exact RetR.scal hq rfl (by simp [resV])
end Go.Proofs.Try
end

/- What is known: the checks. -/
section
set_option linter.unusedVariables false
set_option linter.unusedSimpArgs false
set_option maxRecDepth 100000
open Go Go.Sx Go.Proofs Go.Nov
namespace Go.Proofs.Try
attribute [local simp] eqKV eqA eqA0 eqH eqB eqL eqL0
noncomputable def K32 : List Go.Sx.Item := [.code (Try.f32.body.getD .skip)]
noncomputable def K33 : List Go.Sx.Item := [.code (Try.f33.body.getD .skip)]
noncomputable def K53 : List Go.Sx.Item := [.code (Try.f53.body.getD .skip)]
noncomputable def K34 : List Go.Sx.Item := [.code (Try.f34.body.getD .skip)]
noncomputable def K55 : List Go.Sx.Item := [.code (Try.f55.body.getD .skip)]
noncomputable def K35 : List Go.Sx.Item := [.code (Try.f35.body.getD .skip)]
noncomputable def K36 : List Go.Sx.Item := [.code (Try.f36.body.getD .skip)]
noncomputable def K37 : List Go.Sx.Item := [.code (Try.f37.body.getD .skip)]
noncomputable def K12 : List Go.Sx.Item := [.code (Try.f12.body.getD .skip)]

def smallF (f : Fx) : Prop := f.name.length < 2 ^ 40 ∧ f.value.length < 2 ^ 40
def smallC (c : Ch) : Prop := c.party.length < 2 ^ 40 ∧ c.name.length < 2 ^ 40
def badFC : Ctr := ctrP true (fun f : Fx => [f.av]) smallF (fun f r => r = !okF f) (fun _ (r : Bool) => (.bool r, []))
def badCC : Ctr := ctrP true (fun c : Ch => [c.av]) smallC (fun c r => r = !okC c) (fun _ (r : Bool) => (.bool r, []))
def GE1 : Nat → Option Ctr := fun f => if f = 17 then some nameC else if f = 18 then some withinC else if f = 19 then some qcheckC else none
theorem GE1_ok : ∀ g c, GE1 g = some c → CtrOK Try.prog g c := by
  intro g c h
  simp only [GE1] at h
  split at h
  · rename_i hg; subst hg; cases h; exact name_ok
  split at h
  · rename_i hg; subst hg; cases h; exact within_ok
  split at h
  · rename_i hg; subst hg; cases h; exact qcheck_ok
  cases h

theorem badF_ok : CtrOK Try.prog 32 badFC := by
  refine fn_ctrP (fn := Try.f32) (c := Try.f32.body.getD .skip) rfl rfl rfl fun f hs O w0 Q hq => ?_
  obtain ⟨a, d, v⟩ := f
  obtain ⟨h1, h2⟩ := hs
  replace hq := hq _ rfl
  simp only [okF] at hq h1 h2
  refine SafeK.run (k := K32) hmix GE1_ok [] 400 (T := Tree.ex (fun (x : List UInt8) => eqL [AV.str a] [AV.str x] ∧ List.length x < (4611686018427387904 : Nat)) fun (n : List UInt8) => Tree.all (fun (r : Bool) => r = nameB n) fun (n : Bool) => Tree.ex (fun (x : Int) => (!n) = false → eqL [AV.int IntKind.i64 d] [AV.int IntKind.i64 x] ∧ True) fun (n_1 : Int) => Tree.all (fun (x : Bool) => (!n) = false → x = dayB n_1) fun (n_2 : Bool) => Tree.ex (fun (x : List UInt8) => (bif !n then true else !n_2) = false → eqL [AV.str v] [AV.str x] ∧ List.length x < (4611686018427387904 : Nat)) fun (n_3 : List UInt8) => Tree.all (fun (x : Int) => (bif !n then true else !n_2) = false → x = errR n_3) fun (n_4 : Int) => Tree.leaf (Leaf2.ret [AV.bool (bif bif !n then true else !n_2 then true else !decide (n_4 = (0 : Int)))] [Blk.box [AV.str a, AV.int IntKind.i64 d, AV.str v]])) (by kernel_rfl) ?_
  simp only [Tree.holds, Leafs2]
  refine ⟨a, ⟨by simp, by omega⟩, ⟨_, rfl⟩, ?_⟩
  rintro _ rfl
  refine ⟨d, fun _ => ⟨by simp, trivial⟩, ⟨_, fun _ => rfl⟩, ?_⟩
  intro x hx
  refine ⟨v, fun _ => ⟨by simp, by omega⟩, ⟨_, fun _ => rfl⟩, ?_⟩
  intro y hy
  refine RetR.scal hq rfl ?_
  simp only [resV]
  cases hn : nameB a with
  | false => rfl
  | true =>
    rw [hx (by rw [hn]; rfl)] at hy ⊢
    cases hd : dayB d with
    | false => rfl
    | true => rw [hy (by rw [hn, hd]; rfl)]; rfl
theorem badC_ok : CtrOK Try.prog 33 badCC := by
  refine fn_ctrP (fn := Try.f33) (c := Try.f33.body.getD .skip) rfl rfl rfl fun f hs O w0 Q hq => ?_
  obtain ⟨a, v, d, f⟩ := f
  obtain ⟨h1, h2⟩ := hs
  replace hq := hq _ rfl
  simp only [okC] at hq h1 h2
  refine SafeK.run (k := K33) hmix GE1_ok [] 400 (T := Tree.ex (fun (x : List UInt8) => eqL [AV.str a] [AV.str x] ∧ List.length x < (4611686018427387904 : Nat)) fun (n : List UInt8) => Tree.all (fun (r : Bool) => r = nameB n) fun (n : Bool) => Tree.ex (fun (x : List UInt8) => (!n) = false → eqL [AV.str v] [AV.str x] ∧ List.length x < (4611686018427387904 : Nat)) fun (n_1 : List UInt8) => Tree.all (fun (x : Bool) => (!n) = false → x = nameB n_1) fun (n_2 : Bool) => Tree.ex (fun (x : Int) => (bif !n then true else !n_2) = false → eqL [AV.int IntKind.i64 d] [AV.int IntKind.i64 x] ∧ True) fun (n_3 : Int) => Tree.all (fun (x : Bool) => (bif !n then true else !n_2) = false → x = dayB n_3) fun (n_4 : Bool) => Tree.leaf (Leaf2.ret [AV.bool (bif bif !n then true else !n_2 then true else !n_4)] [Blk.box [AV.str a, AV.str v, AV.int IntKind.i64 d, AV.bool f]])) (by kernel_rfl) ?_
  simp only [Tree.holds, Leafs2]
  refine ⟨a, ⟨by simp, by omega⟩, ⟨_, rfl⟩, ?_⟩
  rintro _ rfl
  refine ⟨v, fun _ => ⟨by simp, by omega⟩, ⟨_, fun _ => rfl⟩, ?_⟩
  intro x hx
  refine ⟨d, fun _ => ⟨by simp, trivial⟩, ⟨_, fun _ => rfl⟩, ?_⟩
  intro y hy
  refine RetR.scal hq rfl ?_
  simp only [resV]
  cases hn : nameB a with
  | false => rfl
  | true =>
    rw [hx (by rw [hn]; rfl)] at hy ⊢
    cases hd : nameB v with
    | false => rfl
    | true => rw [hy (by rw [hn, hd]; rfl)]; rfl
def idxFC : Ctr := ctrP true (fun l : List Fx => [fxS l, .fn 32 [] []]) (fun l => l.length < 2 ^ 40 ∧ ∀ j, j < l.length → smallF (l.getD j Fx.nil)) (fun l r => r = idxB (fun x => !okF x) l) (fun _ (r : Int) => (.int .i64 r, []))
def SIxF (l : List Fx) (i : Nat) : KV := [(0, fxS l), (1, .fn 32 [] []), (7, .int .i64 (l.length : Int)), (8, .int .i64 (i : Int))]
def GE2F : Nat → Option Ctr := fun f => if f = 32 then some badFC else none
theorem GE2F_ok : ∀ g c, GE2F g = some c → CtrOK Try.prog g c := by
  intro g c h
  simp only [GE2F] at h
  split at h
  · rename_i hg; subst hg; cases h; exact badF_ok
  cases h

theorem idxF_ok : CtrOK Try.prog 53 idxFC := by
  refine fn_ctrP (fn := Try.f53) (c := Try.f53.body.getD .skip) rfl rfl rfl fun l hl O w0 Q hq => ?_
  obtain ⟨hl, hsm⟩ := hl
  replace hq := hq _ rfl
  refine SafeK.run (k := K53) hmix GE2F_ok [0, 1, 7, 8] 400 (T := Tree.leaf (Leaf2.loop (Prod.fst (lps K53 (0 : Nat))) (Prod.snd (lps K53 (0 : Nat))) [((0 : Nat), AV.sl (List.length l) (3 : Nat) (fxG l)), ((1 : Nat), AV.fn (32 : Nat) [] []), ((7 : Nat), AV.int IntKind.i64 (↑(List.length l) : Int)), ((8 : Nat), AV.int IntKind.i64 (0 : Int))] [])) (by kernel_rfl) ?_
  simp only [Tree.holds, Leafs2]
  refine SafeK.loop (ι := {i : Nat // i ≤ l.length ∧ ∀ j, j < i → (!okF (l.getD j Fx.nil)) = false}) (fun i => SIxF l i.1) (fun _ => []) (fun i => l.length - i.1) ⟨0, Nat.zero_le _, fun j hj => by omega⟩ 0 ?_ ?_ (by kernel_rfl)
  · exact ⟨by simp [SIxF, fxS, eqG_refl], by simp, by kernel_rfl, Nat.zero_le _⟩
  · rintro ⟨i, hil, hib⟩
    refine SafeK.run (k := inside K53 0) hmix GE2F_ok [0, 1, 7, 8] 400 (T := Tree.ite (decide ((↑i : Int) < (↑(List.length l) : Int))) (Tree.side ((0 : Int) ≤ (↑i : Int) ∧ (↑i : Int) < (↑(List.length l) : Int)) (Tree.ex (fun (x : Fx) => eqL [AV.agg [AV.str (Fx.name (List.getD l (Int.toNat (↑i : Int)) Fx.nil)), AV.int IntKind.i64 (Fx.date (List.getD l (Int.toNat (↑i : Int)) Fx.nil)), AV.str (Fx.value (List.getD l (Int.toNat (↑i : Int)) Fx.nil))]] [AV.agg [AV.str (Fx.name x), AV.int IntKind.i64 (Fx.date x), AV.str (Fx.value x)]] ∧ smallF x) fun (n : Fx) => Tree.all (fun (r : Bool) => r = !okF n) fun (n : Bool) => Tree.ite n (Tree.leaf (Leaf2.ret [AV.int IntKind.i64 (↑i : Int)] [])) (Tree.side (inR IntKind.i64 ((↑i : Int) + (1 : Int))) (Tree.leaf (Leaf2.back (0 : Nat) [((0 : Nat), AV.sl (List.length l) (3 : Nat) (fxG l)), ((1 : Nat), AV.fn (32 : Nat) [] []), ((7 : Nat), AV.int IntKind.i64 (↑(List.length l) : Int)), ((8 : Nat), AV.int IntKind.i64 ((↑i : Int) + (1 : Int)))] []))))) (Tree.leaf (Leaf2.ret [AV.int IntKind.i64 (-1 : Int)] []))) (by kernel_rfl) ?_
    simp only [Tree.holds, Leafs2, inR, lo, hi, Int.toNat_natCast]
    refine ⟨fun hlt => ?_, fun hge => ?_⟩
    · have hlt : i < l.length := by have := of_decide_eq_true hlt; omega
      refine ⟨by omega, fun _ => ⟨l.getD i Fx.nil, ⟨by simp, hsm i hlt⟩, ⟨_, rfl⟩, ?_⟩⟩
      rintro _ rfl
      refine ⟨fun h => ?_, fun h => ⟨by omega, fun _ => ?_⟩⟩
      · rw [idxB_at hlt h hib] at hq
        exact RetR.scal hq rfl (by simp [resV])
      · rw [if_pos trivial]
        refine ⟨⟨i + 1, hlt, fun j hj => ?_⟩, by show l.length - (i + 1) < l.length - i; omega, by simp [SIxF, fxS, eqG_refl], by simp, by kernel_rfl, Nat.zero_le _⟩
        rcases Nat.lt_or_ge j i with h1 | h1
        · exact hib j h1
        · have : j = i := by omega
          rw [this]; exact h
    · have hge : i = l.length := by have := of_decide_eq_false hge; omega
      subst hge
      rw [idxB_none hib] at hq
      exact RetR.scal hq rfl (by simp [resV])
def hasFC : Ctr := ctrP true (fun l : List Fx => [fxS l, .fn 32 [] []]) (fun l => l.length < 2 ^ 40 ∧ ∀ j, j < l.length → smallF (l.getD j Fx.nil)) (fun l r => r = l.any fun x => !okF x) (fun _ (r : Bool) => (.bool r, []))
def GE3F : Nat → Option Ctr := fun f => if f = 53 then some idxFC else none
theorem GE3F_ok : ∀ g c, GE3F g = some c → CtrOK Try.prog g c := by
  intro g c h
  simp only [GE3F] at h
  split at h
  · rename_i hg; subst hg; cases h; exact idxF_ok
  cases h

theorem hasF_ok : CtrOK Try.prog 34 hasFC := by
  refine fn_ctrP (fn := Try.f34) (c := Try.f34.body.getD .skip) rfl rfl rfl fun l hl O w0 Q hq => ?_
  replace hq := hq _ rfl
  refine SafeK.run (k := K34) hmix GE3F_ok [] 400 (T := Tree.ex (fun (x : List Fx) => eqL [AV.sl (List.length l) (3 : Nat) (fxG l), AV.fn (32 : Nat) [] []] [AV.sl (List.length x) (3 : Nat) (fxG x), AV.fn (32 : Nat) [] []] ∧ List.length x < (1099511627776 : Nat) ∧ ∀ (j : Nat), j < List.length x → smallF (List.getD x j Fx.nil)) fun (n : List Fx) => Tree.all (fun (r : Int) => r = idxB (fun (x : Fx) => !okF x) n) fun (n : Int) => Tree.leaf (Leaf2.ret [AV.bool (decide ((0 : Int) ≤ n))] [])) (by kernel_rfl) ?_
  simp only [Tree.holds, Leafs2]
  refine ⟨l, ⟨by simp [eqG_refl], hl⟩, ⟨_, rfl⟩, ?_⟩
  rintro _ rfl
  rw [← idxB_any] at hq
  exact RetR.scal hq rfl (by simp [resV])
def idxCC : Ctr := ctrP true (fun l : List Ch => [chS l, .fn 33 [] []]) (fun l => l.length < 2 ^ 40 ∧ ∀ j, j < l.length → smallC (l.getD j Ch.nil)) (fun l r => r = idxB (fun x => !okC x) l) (fun _ (r : Int) => (.int .i64 r, []))
def SIxC (l : List Ch) (i : Nat) : KV := [(0, chS l), (1, .fn 33 [] []), (7, .int .i64 (l.length : Int)), (8, .int .i64 (i : Int))]
def GE2C : Nat → Option Ctr := fun f => if f = 33 then some badCC else none
theorem GE2C_ok : ∀ g c, GE2C g = some c → CtrOK Try.prog g c := by
  intro g c h
  simp only [GE2C] at h
  split at h
  · rename_i hg; subst hg; cases h; exact badC_ok
  cases h

theorem idxC_ok : CtrOK Try.prog 55 idxCC := by
  refine fn_ctrP (fn := Try.f55) (c := Try.f55.body.getD .skip) rfl rfl rfl fun l hl O w0 Q hq => ?_
  obtain ⟨hl, hsm⟩ := hl
  replace hq := hq _ rfl
  refine SafeK.run (k := K55) hmix GE2C_ok [0, 1, 7, 8] 400 (T := Tree.leaf (Leaf2.loop (Prod.fst (lps K55 (0 : Nat))) (Prod.snd (lps K55 (0 : Nat))) [((0 : Nat), AV.sl (List.length l) (4 : Nat) (chG l)), ((1 : Nat), AV.fn (33 : Nat) [] []), ((7 : Nat), AV.int IntKind.i64 (↑(List.length l) : Int)), ((8 : Nat), AV.int IntKind.i64 (0 : Int))] [])) (by kernel_rfl) ?_
  simp only [Tree.holds, Leafs2]
  refine SafeK.loop (ι := {i : Nat // i ≤ l.length ∧ ∀ j, j < i → (!okC (l.getD j Ch.nil)) = false}) (fun i => SIxC l i.1) (fun _ => []) (fun i => l.length - i.1) ⟨0, Nat.zero_le _, fun j hj => by omega⟩ 0 ?_ ?_ (by kernel_rfl)
  · exact ⟨by simp [SIxC, chS, eqG_refl], by simp, by kernel_rfl, Nat.zero_le _⟩
  · rintro ⟨i, hil, hib⟩
    refine SafeK.run (k := inside K55 0) hmix GE2C_ok [0, 1, 7, 8] 400 (T := Tree.ite (decide ((↑i : Int) < (↑(List.length l) : Int))) (Tree.side ((0 : Int) ≤ (↑i : Int) ∧ (↑i : Int) < (↑(List.length l) : Int)) (Tree.ex (fun (x : Ch) => eqL [AV.agg [AV.str (Ch.party (List.getD l (Int.toNat (↑i : Int)) Ch.nil)), AV.str (Ch.name (List.getD l (Int.toNat (↑i : Int)) Ch.nil)), AV.int IntKind.i64 (Ch.date (List.getD l (Int.toNat (↑i : Int)) Ch.nil)), AV.bool (Ch.first (List.getD l (Int.toNat (↑i : Int)) Ch.nil))]] [AV.agg [AV.str (Ch.party x), AV.str (Ch.name x), AV.int IntKind.i64 (Ch.date x), AV.bool (Ch.first x)]] ∧ smallC x) fun (n : Ch) => Tree.all (fun (r : Bool) => r = !okC n) fun (n : Bool) => Tree.ite n (Tree.leaf (Leaf2.ret [AV.int IntKind.i64 (↑i : Int)] [])) (Tree.side (inR IntKind.i64 ((↑i : Int) + (1 : Int))) (Tree.leaf (Leaf2.back (0 : Nat) [((0 : Nat), AV.sl (List.length l) (4 : Nat) (chG l)), ((1 : Nat), AV.fn (33 : Nat) [] []), ((7 : Nat), AV.int IntKind.i64 (↑(List.length l) : Int)), ((8 : Nat), AV.int IntKind.i64 ((↑i : Int) + (1 : Int)))] []))))) (Tree.leaf (Leaf2.ret [AV.int IntKind.i64 (-1 : Int)] []))) (by kernel_rfl) ?_
    simp only [Tree.holds, Leafs2, inR, lo, hi, Int.toNat_natCast]
    refine ⟨fun hlt => ?_, fun hge => ?_⟩
    · have hlt : i < l.length := by have := of_decide_eq_true hlt; omega
      refine ⟨by omega, fun _ => ⟨l.getD i Ch.nil, ⟨by simp, hsm i hlt⟩, ⟨_, rfl⟩, ?_⟩⟩
      rintro _ rfl
      refine ⟨fun h => ?_, fun h => ⟨by omega, fun _ => ?_⟩⟩
      · rw [idxB_at hlt h hib] at hq
        exact RetR.scal hq rfl (by simp [resV])
      · rw [if_pos trivial]
        refine ⟨⟨i + 1, hlt, fun j hj => ?_⟩, by show l.length - (i + 1) < l.length - i; omega, by simp [SIxC, chS, eqG_refl], by simp, by kernel_rfl, Nat.zero_le _⟩
        rcases Nat.lt_or_ge j i with h1 | h1
        · exact hib j h1
        · have : j = i := by omega
          rw [this]; exact h
    · have hge : i = l.length := by have := of_decide_eq_false hge; omega
      subst hge
      rw [idxB_none hib] at hq
      exact RetR.scal hq rfl (by simp [resV])
def hasCC : Ctr := ctrP true (fun l : List Ch => [chS l, .fn 33 [] []]) (fun l => l.length < 2 ^ 40 ∧ ∀ j, j < l.length → smallC (l.getD j Ch.nil)) (fun l r => r = l.any fun x => !okC x) (fun _ (r : Bool) => (.bool r, []))
def GE3C : Nat → Option Ctr := fun f => if f = 55 then some idxCC else none
theorem GE3C_ok : ∀ g c, GE3C g = some c → CtrOK Try.prog g c := by
  intro g c h
  simp only [GE3C] at h
  split at h
  · rename_i hg; subst hg; cases h; exact idxC_ok
  cases h

theorem hasC_ok : CtrOK Try.prog 35 hasCC := by
  refine fn_ctrP (fn := Try.f35) (c := Try.f35.body.getD .skip) rfl rfl rfl fun l hl O w0 Q hq => ?_
  replace hq := hq _ rfl
  refine SafeK.run (k := K35) hmix GE3C_ok [] 400 (T := Tree.ex (fun (x : List Ch) => eqL [AV.sl (List.length l) (4 : Nat) (chG l), AV.fn (33 : Nat) [] []] [AV.sl (List.length x) (4 : Nat) (chG x), AV.fn (33 : Nat) [] []] ∧ List.length x < (1099511627776 : Nat) ∧ ∀ (j : Nat), j < List.length x → smallC (List.getD x j Ch.nil)) fun (n : List Ch) => Tree.all (fun (r : Int) => r = idxB (fun (x : Ch) => !okC x) n) fun (n : Int) => Tree.leaf (Leaf2.ret [AV.bool (decide ((0 : Int) ≤ n))] [])) (by kernel_rfl) ?_
  simp only [Tree.holds, Leafs2]
  refine ⟨l, ⟨by simp [eqG_refl], hl⟩, ⟨_, rfl⟩, ?_⟩
  rintro _ rfl
  rw [← idxB_any] at hq
  exact RetR.scal hq rfl (by simp [resV])
def ordFC : Ctr := ctrP true (fun l : List Fx => [fxS l, .fn 21 [] []]) (fun l => l.length < 2 ^ 40) (fun l r => r = ordB cmpF Fx.nil l) (fun _ (r : Bool) => (.bool r, []))
def SOdF (l : List Fx) (i : Nat) : KV := [(0, fxS l), (1, .fn 21 [] []), (5, .int .i64 (i : Int))]
def GE4F : Nat → Option Ctr := fun f => if f = 21 then some fixingsC else none
theorem GE4F_ok : ∀ g c, GE4F g = some c → CtrOK Try.prog g c := by
  intro g c h
  simp only [GE4F] at h
  split at h
  · rename_i hg; subst hg; cases h; exact fixings_ok
  cases h

theorem ordF_ok : CtrOK Try.prog 36 ordFC := by
  refine fn_ctrP (fn := Try.f36) (c := Try.f36.body.getD .skip) rfl rfl rfl fun l hl O w0 Q hq => ?_
  replace hq := hq _ rfl
  refine SafeK.run (k := K36) hmix GE4F_ok [0, 1, 5] 400 (T := Tree.leaf (Leaf2.loop (Prod.fst (lps K36 (0 : Nat))) (Prod.snd (lps K36 (0 : Nat))) [((0 : Nat), AV.sl (List.length l) (3 : Nat) (fxG l)), ((1 : Nat), AV.fn (21 : Nat) [] []), ((5 : Nat), AV.int IntKind.i64 (1 : Int))] [])) (by kernel_rfl) ?_
  simp only [Tree.holds, Leafs2]
  refine SafeK.loop (ι := {i : Nat // 0 < i ∧ (i ≤ l.length ∨ i = 1) ∧ ∀ j, j + 1 < i → cmpF (l.getD j Fx.nil) (l.getD (j + 1) Fx.nil) < 0}) (fun i => SOdF l i.1) (fun _ => []) (fun i => l.length - i.1) ⟨1, Nat.one_pos, .inr rfl, fun j hj => by omega⟩ 0 ?_ ?_ (by kernel_rfl)
  · exact ⟨by simp [SOdF, fxS, eqG_refl], by simp, by kernel_rfl, Nat.zero_le _⟩
  · rintro ⟨i, hi0, hil, hib⟩
    refine SafeK.run (k := inside K36 0) hmix GE4F_ok [0, 1, 5] 400 (T := Tree.ite (decide ((↑i : Int) < (↑(List.length l) : Int))) (Tree.side (inR IntKind.i64 ((↑i : Int) - (1 : Int))) (Tree.side ((0 : Int) ≤ (↑i : Int) - (1 : Int) ∧ (↑i : Int) - (1 : Int) < (↑(List.length l) : Int)) (Tree.side ((0 : Int) ≤ (↑i : Int) ∧ (↑i : Int) < (↑(List.length l) : Int)) (Tree.ex (fun (x : Fx × Fx) => eqL [AV.agg [AV.str (Fx.name (List.getD l (Int.toNat ((↑i : Int) - (1 : Int))) Fx.nil)), AV.int IntKind.i64 (Fx.date (List.getD l (Int.toNat ((↑i : Int) - (1 : Int))) Fx.nil)), AV.str (Fx.value (List.getD l (Int.toNat ((↑i : Int) - (1 : Int))) Fx.nil))], AV.agg [AV.str (Fx.name (List.getD l (Int.toNat (↑i : Int)) Fx.nil)), AV.int IntKind.i64 (Fx.date (List.getD l (Int.toNat (↑i : Int)) Fx.nil)), AV.str (Fx.value (List.getD l (Int.toNat (↑i : Int)) Fx.nil))]] [AV.agg [AV.str (Fx.name (Prod.fst x)), AV.int IntKind.i64 (Fx.date (Prod.fst x)), AV.str (Fx.value (Prod.fst x))], AV.agg [AV.str (Fx.name (Prod.snd x)), AV.int IntKind.i64 (Fx.date (Prod.snd x)), AV.str (Fx.value (Prod.snd x))]] ∧ True) fun (n : Fx × Fx) => Tree.all (fun (r : Int) => r = cmpF (Prod.fst n) (Prod.snd n)) fun (n : Int) => Tree.ite (decide ((0 : Int) ≤ n)) (Tree.leaf (Leaf2.ret [AV.bool false] [])) (Tree.side (inR IntKind.i64 ((↑i : Int) + (1 : Int))) (Tree.leaf (Leaf2.back (0 : Nat) [((0 : Nat), AV.sl (List.length l) (3 : Nat) (fxG l)), ((1 : Nat), AV.fn (21 : Nat) [] []), ((5 : Nat), AV.int IntKind.i64 ((↑i : Int) + (1 : Int)))] []))))))) (Tree.leaf (Leaf2.ret [AV.bool true] []))) (by kernel_rfl) ?_
    simp only [Tree.holds, Leafs2, inR, lo, hi, Int.toNat_natCast]
    have e : ((i : Int) - 1).toNat = i - 1 := by omega
    have e2 : i - 1 + 1 = i := by omega
    refine ⟨fun hlt => ?_, fun hge => ?_⟩
    · have hlt : i < l.length := by have := of_decide_eq_true hlt; omega
      simp only [e]
      refine ⟨by omega, fun _ => ⟨by omega, fun _ => ⟨by omega, fun _ => ⟨(l.getD (i - 1) Fx.nil, l.getD i Fx.nil), ⟨by simp, trivial⟩, ⟨_, rfl⟩, ?_⟩⟩⟩⟩
      rintro _ rfl
      refine ⟨fun h => ?_, fun h => ⟨by omega, fun _ => ?_⟩⟩
      · have h := of_decide_eq_true h
        rw [ordB_not (z := Fx.nil) (j := i - 1) (by omega) (by rw [e2]; simp only at h; omega)] at hq
        exact RetR.scal hq rfl (by simp [resV])
      · have h := of_decide_eq_false h
        rw [if_pos trivial]
        refine ⟨⟨i + 1, by omega, .inl hlt, fun j hj => ?_⟩, by show l.length - (i + 1) < l.length - i; omega, by simp [SOdF, fxS, eqG_refl], by simp, by kernel_rfl, Nat.zero_le _⟩
        rcases Nat.lt_or_ge (j + 1) i with h1 | h1
        · exact hib j h1
        · have : j = i - 1 := by omega
          rw [this, e2]; simp only at h; omega
    · have hge : l.length ≤ i := by have := of_decide_eq_false hge; omega
      rw [ordB_all (z := Fx.nil) fun j hj => hib j (by omega)] at hq
      exact RetR.scal hq rfl (by simp [resV])
def ordCC : Ctr := ctrP true (fun l : List Ch => [chS l, .fn 28 [] []]) (fun l => l.length < 2 ^ 40) (fun l r => r = ordB cmpC Ch.nil l) (fun _ (r : Bool) => (.bool r, []))
def SOdC (l : List Ch) (i : Nat) : KV := [(0, chS l), (1, .fn 28 [] []), (5, .int .i64 (i : Int))]
def GE4C : Nat → Option Ctr := fun f => if f = 28 then some choicesC else none
theorem GE4C_ok : ∀ g c, GE4C g = some c → CtrOK Try.prog g c := by
  intro g c h
  simp only [GE4C] at h
  split at h
  · rename_i hg; subst hg; cases h; exact choices_ok
  cases h

theorem ordC_ok : CtrOK Try.prog 37 ordCC := by
  refine fn_ctrP (fn := Try.f37) (c := Try.f37.body.getD .skip) rfl rfl rfl fun l hl O w0 Q hq => ?_
  replace hq := hq _ rfl
  refine SafeK.run (k := K37) hmix GE4C_ok [0, 1, 5] 400 (T := Tree.leaf (Leaf2.loop (Prod.fst (lps K37 (0 : Nat))) (Prod.snd (lps K37 (0 : Nat))) [((0 : Nat), AV.sl (List.length l) (4 : Nat) (chG l)), ((1 : Nat), AV.fn (28 : Nat) [] []), ((5 : Nat), AV.int IntKind.i64 (1 : Int))] [])) (by kernel_rfl) ?_
  simp only [Tree.holds, Leafs2]
  refine SafeK.loop (ι := {i : Nat // 0 < i ∧ (i ≤ l.length ∨ i = 1) ∧ ∀ j, j + 1 < i → cmpC (l.getD j Ch.nil) (l.getD (j + 1) Ch.nil) < 0}) (fun i => SOdC l i.1) (fun _ => []) (fun i => l.length - i.1) ⟨1, Nat.one_pos, .inr rfl, fun j hj => by omega⟩ 0 ?_ ?_ (by kernel_rfl)
  · exact ⟨by simp [SOdC, chS, eqG_refl], by simp, by kernel_rfl, Nat.zero_le _⟩
  · rintro ⟨i, hi0, hil, hib⟩
    refine SafeK.run (k := inside K37 0) hmix GE4C_ok [0, 1, 5] 400 (T := Tree.ite (decide ((↑i : Int) < (↑(List.length l) : Int))) (Tree.side (inR IntKind.i64 ((↑i : Int) - (1 : Int))) (Tree.side ((0 : Int) ≤ (↑i : Int) - (1 : Int) ∧ (↑i : Int) - (1 : Int) < (↑(List.length l) : Int)) (Tree.side ((0 : Int) ≤ (↑i : Int) ∧ (↑i : Int) < (↑(List.length l) : Int)) (Tree.ex (fun (x : Ch × Ch) => eqL [AV.agg [AV.str (Ch.party (List.getD l (Int.toNat ((↑i : Int) - (1 : Int))) Ch.nil)), AV.str (Ch.name (List.getD l (Int.toNat ((↑i : Int) - (1 : Int))) Ch.nil)), AV.int IntKind.i64 (Ch.date (List.getD l (Int.toNat ((↑i : Int) - (1 : Int))) Ch.nil)), AV.bool (Ch.first (List.getD l (Int.toNat ((↑i : Int) - (1 : Int))) Ch.nil))], AV.agg [AV.str (Ch.party (List.getD l (Int.toNat (↑i : Int)) Ch.nil)), AV.str (Ch.name (List.getD l (Int.toNat (↑i : Int)) Ch.nil)), AV.int IntKind.i64 (Ch.date (List.getD l (Int.toNat (↑i : Int)) Ch.nil)), AV.bool (Ch.first (List.getD l (Int.toNat (↑i : Int)) Ch.nil))]] [AV.agg [AV.str (Ch.party (Prod.fst x)), AV.str (Ch.name (Prod.fst x)), AV.int IntKind.i64 (Ch.date (Prod.fst x)), AV.bool (Ch.first (Prod.fst x))], AV.agg [AV.str (Ch.party (Prod.snd x)), AV.str (Ch.name (Prod.snd x)), AV.int IntKind.i64 (Ch.date (Prod.snd x)), AV.bool (Ch.first (Prod.snd x))]] ∧ True) fun (n : Ch × Ch) => Tree.all (fun (r : Int) => r = cmpC (Prod.fst n) (Prod.snd n)) fun (n : Int) => Tree.ite (decide ((0 : Int) ≤ n)) (Tree.leaf (Leaf2.ret [AV.bool false] [])) (Tree.side (inR IntKind.i64 ((↑i : Int) + (1 : Int))) (Tree.leaf (Leaf2.back (0 : Nat) [((0 : Nat), AV.sl (List.length l) (4 : Nat) (chG l)), ((1 : Nat), AV.fn (28 : Nat) [] []), ((5 : Nat), AV.int IntKind.i64 ((↑i : Int) + (1 : Int)))] []))))))) (Tree.leaf (Leaf2.ret [AV.bool true] []))) (by kernel_rfl) ?_
    simp only [Tree.holds, Leafs2, inR, lo, hi, Int.toNat_natCast]
    have e : ((i : Int) - 1).toNat = i - 1 := by omega
    have e2 : i - 1 + 1 = i := by omega
    refine ⟨fun hlt => ?_, fun hge => ?_⟩
    · have hlt : i < l.length := by have := of_decide_eq_true hlt; omega
      simp only [e]
      refine ⟨by omega, fun _ => ⟨by omega, fun _ => ⟨by omega, fun _ => ⟨(l.getD (i - 1) Ch.nil, l.getD i Ch.nil), ⟨by simp, trivial⟩, ⟨_, rfl⟩, ?_⟩⟩⟩⟩
      rintro _ rfl
      refine ⟨fun h => ?_, fun h => ⟨by omega, fun _ => ?_⟩⟩
      · have h := of_decide_eq_true h
        rw [ordB_not (z := Ch.nil) (j := i - 1) (by omega) (by rw [e2]; simp only at h; omega)] at hq
        exact RetR.scal hq rfl (by simp [resV])
      · have h := of_decide_eq_false h
        rw [if_pos trivial]
        refine ⟨⟨i + 1, by omega, .inl hlt, fun j hj => ?_⟩, by show l.length - (i + 1) < l.length - i; omega, by simp [SOdC, chS, eqG_refl], by simp, by kernel_rfl, Nat.zero_le _⟩
        rcases Nat.lt_or_ge (j + 1) i with h1 | h1
        · exact hib j h1
        · have : j = i - 1 := by omega
          rw [this, e2]; simp only at h; omega
    · have hge : l.length ≤ i := by have := of_decide_eq_false hge; omega
      rw [ordB_all (z := Ch.nil) fun j hj => hib j (by omega)] at hq
      exact RetR.scal hq rfl (by simp [resV])
def envP (p : List Fx × List Ch) : Prop := p.1.length < 2 ^ 40 ∧ p.2.length < 2 ^ 40 ∧ (∀ j, j < p.1.length → smallF (p.1.getD j Fx.nil)) ∧ ∀ j, j < p.2.length → smallC (p.2.getD j Ch.nil)
def checkEC : Ctr := ctrP true (fun p : List Fx × List Ch => [envA p.1 p.2]) envP (fun p r => r = errE p.1 p.2) (fun _ (r : Int) => (.int .i64 r, []))
def GE5 : Nat → Option Ctr := fun f => if f = 34 then some hasFC else if f = 35 then some hasCC else if f = 36 then some ordFC else if f = 37 then some ordCC else none
theorem GE5_ok : ∀ g c, GE5 g = some c → CtrOK Try.prog g c := by
  intro g c h
  simp only [GE5] at h
  split at h
  · rename_i hg; subst hg; cases h; exact hasF_ok
  split at h
  · rename_i hg; subst hg; cases h; exact hasC_ok
  split at h
  · rename_i hg; subst hg; cases h; exact ordF_ok
  split at h
  · rename_i hg; subst hg; cases h; exact ordC_ok
  cases h

theorem checkE_ok : CtrOK Try.prog 12 checkEC := by
  refine fn_ctrP (fn := Try.f12) (c := Try.f12.body.getD .skip) rfl rfl rfl fun p hp O w0 Q hq => ?_
  obtain ⟨f, c⟩ := p
  obtain ⟨h1, h2, h3, h4⟩ := hp
  replace hq := hq _ rfl
  simp only at hq h1 h2 h3 h4
  refine SafeK.run (k := K12) hmix GE5_ok [] 400 (T := Tree.ite (bif decide ((1000 : Int) < (↑(List.length f) : Int)) then true else decide ((1000 : Int) < (↑(List.length c) : Int))) (Tree.leaf (Leaf2.ret [AV.int IntKind.i64 (4 : Int)] [Blk.box [AV.sl (List.length f) (3 : Nat) (fxG f), AV.sl (List.length c) (4 : Nat) (chG c)]])) (Tree.ex (fun (x : List Fx) => eqL [AV.sl (List.length f) (3 : Nat) (fxG f), AV.fn (32 : Nat) [] []] [AV.sl (List.length x) (3 : Nat) (fxG x), AV.fn (32 : Nat) [] []] ∧ List.length x < (1099511627776 : Nat) ∧ ∀ (j : Nat), j < List.length x → smallF (List.getD x j Fx.nil)) fun (n : List Fx) => Tree.all (fun (r : Bool) => r = List.any n fun (x : Fx) => !okF x) fun (n : Bool) => Tree.ex (fun (x : List Ch) => n = false → eqL [AV.sl (List.length c) (4 : Nat) (chG c), AV.fn (33 : Nat) [] []] [AV.sl (List.length x) (4 : Nat) (chG x), AV.fn (33 : Nat) [] []] ∧ List.length x < (1099511627776 : Nat) ∧ ∀ (j : Nat), j < List.length x → smallC (List.getD x j Ch.nil)) fun (n_1 : List Ch) => Tree.all (fun (x : Bool) => n = false → x = List.any n_1 fun (x : Ch) => !okC x) fun (n_2 : Bool) => Tree.ex (fun (x : List Fx) => (bif n then true else n_2) = false → eqL [AV.sl (List.length f) (3 : Nat) (fxG f), AV.fn (21 : Nat) [] []] [AV.sl (List.length x) (3 : Nat) (fxG x), AV.fn (21 : Nat) [] []] ∧ List.length x < (1099511627776 : Nat)) fun (n_3 : List Fx) => Tree.all (fun (x : Bool) => (bif n then true else n_2) = false → x = ordB cmpF Fx.nil n_3) fun (n_4 : Bool) => Tree.ex (fun (x : List Ch) => (bif bif n then true else n_2 then true else !n_4) = false → eqL [AV.sl (List.length c) (4 : Nat) (chG c), AV.fn (28 : Nat) [] []] [AV.sl (List.length x) (4 : Nat) (chG x), AV.fn (28 : Nat) [] []] ∧ List.length x < (1099511627776 : Nat)) fun (n_5 : List Ch) => Tree.all (fun (x : Bool) => (bif bif n then true else n_2 then true else !n_4) = false → x = ordB cmpC Ch.nil n_5) fun (n_6 : Bool) => Tree.ite (bif bif bif n then true else n_2 then true else !n_4 then true else !n_6) (Tree.leaf (Leaf2.ret [AV.int IntKind.i64 (8 : Int)] [Blk.box [AV.sl (List.length f) (3 : Nat) (fxG f), AV.sl (List.length c) (4 : Nat) (chG c)]])) (Tree.leaf (Leaf2.ret [AV.int IntKind.i64 (0 : Int)] [Blk.box [AV.sl (List.length f) (3 : Nat) (fxG f), AV.sl (List.length c) (4 : Nat) (chG c)]])))) (by kernel_rfl) ?_
  simp only [Tree.holds, Leafs2]
  refine ⟨fun h => ?_, fun h => ?_⟩
  · have h : 1000 < f.length ∨ 1000 < c.length := by
      rw [Bool.cond_eq_ite] at h
      split at h
      · rename_i h1; left; have := of_decide_eq_true h1; omega
      · right; have := of_decide_eq_true h; omega
    have : errE f c = 4 := if_pos h
    rw [this] at hq; exact RetR.scal hq rfl (by simp [resV])
  · have h : ¬ (1000 < f.length ∨ 1000 < c.length) := by
      rw [Bool.cond_eq_ite] at h
      split at h
      · cases h
      · rename_i h1
        have h2 := of_decide_eq_false h
        rintro (h3 | h3)
        · exact h1 (decide_eq_true (by omega))
        · omega
    have he : errE f c = if (f.all okF && c.all okC && ordB cmpF Fx.nil f && ordB cmpC Ch.nil c) = true then 0 else 8 := if_neg h
    have a1 : (f.any fun x => !okF x) = !f.all okF := by rw [List.not_all_eq_any_not]
    have a2 : (c.any fun x => !okC x) = !c.all okC := by rw [List.not_all_eq_any_not]
    refine ⟨f, ⟨by simp [eqG_refl], h1, h3⟩, ⟨_, rfl⟩, ?_⟩
    rintro _ rfl
    refine ⟨c, fun _ => ⟨by simp [eqG_refl], h2, h4⟩, ⟨_, fun _ => rfl⟩, ?_⟩
    intro b1 g1
    refine ⟨f, fun _ => ⟨by simp [eqG_refl], h1⟩, ⟨_, fun _ => rfl⟩, ?_⟩
    intro b2 g2
    refine ⟨c, fun _ => ⟨by simp [eqG_refl], h2⟩, ⟨_, fun _ => rfl⟩, ?_⟩
    intro b3 g3
    rw [a1] at g1 g2 g3 ⊢
    rw [a2] at g1
    clear a1 a2
    generalize f.all okF = p1 at *
    generalize c.all okC = p2 at *
    generalize ordB cmpF Fx.nil f = p3 at *
    generalize ordB cmpC Ch.nil c = p4 at *
    have key : (bif bif bif !p1 then true else b1 then true else !b2 then true else !b3) = !(p1 && p2 && p3 && p4) := by
      cases p1 with
      | false => rfl
      | true =>
        have g1 := g1 rfl
        subst g1
        cases p2 with
        | false => rfl
        | true =>
          have g2 := g2 rfl
          subst g2
          cases b2 with
          | false => rfl
          | true => have g3 := g3 rfl; subst g3; rfl
    rw [key]
    clear key g1 g2 g3
    generalize (p1 && p2 && p3 && p4) = q at *
    refine ⟨fun h => ?_, fun h => ?_⟩
    · cases q with
      | true => cases h
      | false => rw [he, if_neg (by decide)] at hq; exact RetR.scal hq rfl (by simp [resV])
    · cases q with
      | false => cases h
      | true => rw [he, if_pos rfl] at hq; exact RetR.scal hq rfl (by simp [resV])
end Go.Proofs.Try
end

/- What is known: the reference's checks. -/
section
set_option linter.unusedVariables false
set_option linter.unusedSimpArgs false
set_option maxRecDepth 100000
open Go Go.Sx Go.Proofs Go.Nov
namespace Go.Proofs.Try
attribute [local simp] eqKV eqA eqA0 eqH eqB eqL eqL0
noncomputable def K14 : List Go.Sx.Item := [.code (Try.f14.body.getD .skip)]
def SSE (i : Nat) : KV := [(2, .ptr 0 0), (3, .ptr 1 0), (5, .int .i64 (i : Int)), (6, .undef)]
def SSE2 (i : Nat) : KV := [(2, .ptr 0 0), (3, .ptr 1 0), (5, .undef), (6, .int .i64 (i : Int))]
def HSE (f f2 : List Fx) (c c2 : List Ch) : Heap := [.box [fxS f, chS c], .box [fxS f2, chS c2]]
def sameEC : Ctr := ctrP true (fun p : (List Fx × List Ch) × (List Fx × List Ch) => [envA p.1.1 p.1.2, envA p.2.1 p.2.2]) (fun p => p.1.1.length < 2 ^ 40 ∧ p.1.2.length < 2 ^ 40) (fun p r => (r = true ↔ p.1 = p.2)) (fun _ (r : Bool) => (.bool r, []))

theorem sameE_loop2 {O : Nat → Prop} {w0 : World} {Q : AV × Heap → Prop} {Hs : Nat → KV → Heap → Prop} (f f2 : List Fx) (c c2 : List Ch) (h2 : c.length < 2 ^ 40) (hf : f = f2) (hl : c.length = c2.length) (hq : ∀ (r : Bool), (r = true ↔ (f, c) = (f2, c2)) → Q (.bool r, [])) (kv : KV) (h : Heap) (hle : LeK 0 Try.f14.ntmps kv h (SSE2 0) (HSE f f2 c c2)) :
    SafeK Try.prog Try.f14 O 0 w0 [] Hs (RetR sameEC 0 Q) (.code (.loop (lps (inside K14 0) 0).1) :: (lps (inside K14 0) 0).2) (mk Try.f14.ntmps kv h) := by
  refine SafeK.loop (ι := {i : Nat // i ≤ c.length ∧ ∀ j, j < i → c.getD j Ch.nil = c2.getD j Ch.nil}) (fun i => SSE2 i.1) (fun _ => HSE f f2 c c2) (fun i => c.length - i.1) ⟨0, Nat.zero_le _, fun j hj => by omega⟩ 0 hle ?_ (by kernel_rfl)
  rintro ⟨i, hil, hib⟩
  refine SafeK.run (k := inside (inside K14 0) 0) hmix noG_ok [2, 3, 5, 6] 400 (T := Tree.ite (decide ((↑i : Int) < (↑(List.length c) : Int))) (Tree.side ((0 : Int) ≤ (↑i : Int) ∧ (↑i : Int) < (↑(List.length c) : Int)) (Tree.side ((0 : Int) ≤ (↑i : Int) ∧ (↑i : Int) < (↑(List.length c2) : Int)) (Tree.ite (!(decide (Ch.party (List.getD c (Int.toNat (↑i : Int)) Ch.nil) = Ch.party (List.getD c2 (Int.toNat (↑i : Int)) Ch.nil)) && (decide (Ch.name (List.getD c (Int.toNat (↑i : Int)) Ch.nil) = Ch.name (List.getD c2 (Int.toNat (↑i : Int)) Ch.nil)) && (decide (Ch.date (List.getD c (Int.toNat (↑i : Int)) Ch.nil) = Ch.date (List.getD c2 (Int.toNat (↑i : Int)) Ch.nil)) && (Ch.first (List.getD c (Int.toNat (↑i : Int)) Ch.nil) == Ch.first (List.getD c2 (Int.toNat (↑i : Int)) Ch.nil) && true))))) (Tree.leaf (Leaf2.ret [AV.bool false] [Blk.box [AV.sl (List.length f) (3 : Nat) (fxG f), AV.sl (List.length c) (4 : Nat) (chG c)], Blk.box [AV.sl (List.length f2) (3 : Nat) (fxG f2), AV.sl (List.length c2) (4 : Nat) (chG c2)]])) (Tree.side (inR IntKind.i64 ((↑i : Int) + (1 : Int))) (Tree.leaf (Leaf2.back (0 : Nat) [((2 : Nat), AV.ptr (0 : Nat) (0 : Nat)), ((3 : Nat), AV.ptr (1 : Nat) (0 : Nat)), ((5 : Nat), AV.undef), ((6 : Nat), AV.int IntKind.i64 ((↑i : Int) + (1 : Int)))] [Blk.box [AV.sl (List.length f) (3 : Nat) (fxG f), AV.sl (List.length c) (4 : Nat) (chG c)], Blk.box [AV.sl (List.length f2) (3 : Nat) (fxG f2), AV.sl (List.length c2) (4 : Nat) (chG c2)]])))))) (Tree.leaf (Leaf2.ret [AV.bool true] [Blk.box [AV.sl (List.length f) (3 : Nat) (fxG f), AV.sl (List.length c) (4 : Nat) (chG c)], Blk.box [AV.sl (List.length f2) (3 : Nat) (fxG f2), AV.sl (List.length c2) (4 : Nat) (chG c2)]]))) (by kernel_rfl) ?_
  simp only [Tree.holds, Leafs2, inR, lo, hi, Int.toNat_natCast]
  refine ⟨fun hlt => ?_, fun hge => ?_⟩
  · have hlt : i < c.length := by have := of_decide_eq_true hlt; omega
    refine ⟨by omega, fun _ => ⟨by omega, fun _ => ⟨fun h => ?_, fun h => ⟨by omega, fun _ => ?_⟩⟩⟩⟩
    · refine RetR.scal (hq false ⟨fun h => (by cases h), fun he => ?_⟩) rfl (by simp [resV])
      have hc : c = c2 := (Prod.mk.inj he).2
      have := Ch.eq_iff.2 (show c.getD i Ch.nil = c2.getD i Ch.nil by rw [hc])
      rw [this] at h; cases h
    · rw [if_pos trivial]
      have he := Ch.eq_iff.1 (by simpa only [Bool.not_eq_false'] using h)
      refine ⟨⟨i + 1, hlt, fun j hj => ?_⟩, by show c.length - (i + 1) < c.length - i; omega, by simp [SSE2], by simp [HSE, fxS, chS, eqG_refl], by kernel_rfl, Nat.zero_le _⟩
      rcases Nat.lt_or_ge j i with h1 | h1
      · exact hib j h1
      · have : j = i := by omega
        rw [this]; exact he
  · have hge : i = c.length := by have := of_decide_eq_false hge; omega
    subst hge
    have hc := list_ext hl hib
    exact RetR.scal (hq true ⟨fun _ => by rw [hf, hc], fun _ => rfl⟩) rfl (by simp [resV])
theorem sameE_ok : CtrOK Try.prog 14 sameEC := by
  refine fn_ctrP (fn := Try.f14) (c := Try.f14.body.getD .skip) rfl rfl rfl fun p hp O w0 Q hq => ?_
  obtain ⟨⟨f, c⟩, ⟨f2, c2⟩⟩ := p
  obtain ⟨h1, h2⟩ := hp
  simp only at hq h1 h2
  refine SafeK.run (k := K14) hmix noG_ok [2, 3, 5, 6] 400 (T := Tree.ite (bif !decide ((↑(List.length f) : Int) = (↑(List.length f2) : Int)) then true else !decide ((↑(List.length c) : Int) = (↑(List.length c2) : Int))) (Tree.leaf (Leaf2.ret [AV.bool false] [Blk.box [AV.sl (List.length f) (3 : Nat) (fxG f), AV.sl (List.length c) (4 : Nat) (chG c)], Blk.box [AV.sl (List.length f2) (3 : Nat) (fxG f2), AV.sl (List.length c2) (4 : Nat) (chG c2)]])) (Tree.leaf (Leaf2.loop (Prod.fst (lps K14 (0 : Nat))) (Prod.snd (lps K14 (0 : Nat))) [((2 : Nat), AV.ptr (0 : Nat) (0 : Nat)), ((3 : Nat), AV.ptr (1 : Nat) (0 : Nat)), ((5 : Nat), AV.int IntKind.i64 (0 : Int)), ((6 : Nat), AV.undef)] [Blk.box [AV.sl (List.length f) (3 : Nat) (fxG f), AV.sl (List.length c) (4 : Nat) (chG c)], Blk.box [AV.sl (List.length f2) (3 : Nat) (fxG f2), AV.sl (List.length c2) (4 : Nat) (chG c2)]]))) (by kernel_rfl) ?_
  simp only [Tree.holds, Leafs2]
  refine ⟨fun h => ?_, fun h => ?_⟩
  · refine RetR.scal (hq false ⟨fun h => (by cases h), fun he => ?_⟩) rfl (by simp [resV])
    obtain ⟨e1, e2⟩ := Prod.mk.inj he
    subst e1; subst e2
    simp at h
  · have hl : f.length = f2.length ∧ c.length = c2.length := by
      by_cases e1 : f.length = f2.length
      · by_cases e2 : c.length = c2.length
        · exact ⟨e1, e2⟩
        · rw [decide_eq_false (show ¬ ((c.length : Nat) : Int) = c2.length by omega)] at h
          rw [decide_eq_true (show ((f.length : Nat) : Int) = f2.length by omega)] at h
          cases h
      · rw [decide_eq_false (show ¬ ((f.length : Nat) : Int) = f2.length by omega)] at h
        cases h
    refine SafeK.loop (ι := {i : Nat // i ≤ f.length ∧ ∀ j, j < i → f.getD j Fx.nil = f2.getD j Fx.nil}) (fun i => SSE i.1) (fun _ => HSE f f2 c c2) (fun i => f.length - i.1) ⟨0, Nat.zero_le _, fun j hj => by omega⟩ 0 ?_ ?_ (by kernel_rfl)
    · exact ⟨by simp [SSE], by simp [HSE, fxS, chS, eqG_refl], by kernel_rfl, Nat.zero_le _⟩
    · rintro ⟨i, hil, hib⟩
      refine SafeK.run (k := inside K14 0) hmix noG_ok [2, 3, 5, 6] 400 (T := Tree.ite (decide ((↑i : Int) < (↑(List.length f) : Int))) (Tree.side ((0 : Int) ≤ (↑i : Int) ∧ (↑i : Int) < (↑(List.length f) : Int)) (Tree.side ((0 : Int) ≤ (↑i : Int) ∧ (↑i : Int) < (↑(List.length f2) : Int)) (Tree.ite (!(decide (Fx.name (List.getD f (Int.toNat (↑i : Int)) Fx.nil) = Fx.name (List.getD f2 (Int.toNat (↑i : Int)) Fx.nil)) && (decide (Fx.date (List.getD f (Int.toNat (↑i : Int)) Fx.nil) = Fx.date (List.getD f2 (Int.toNat (↑i : Int)) Fx.nil)) && (decide (Fx.value (List.getD f (Int.toNat (↑i : Int)) Fx.nil) = Fx.value (List.getD f2 (Int.toNat (↑i : Int)) Fx.nil)) && true)))) (Tree.leaf (Leaf2.ret [AV.bool false] [Blk.box [AV.sl (List.length f) (3 : Nat) (fxG f), AV.sl (List.length c) (4 : Nat) (chG c)], Blk.box [AV.sl (List.length f2) (3 : Nat) (fxG f2), AV.sl (List.length c2) (4 : Nat) (chG c2)]])) (Tree.side (inR IntKind.i64 ((↑i : Int) + (1 : Int))) (Tree.leaf (Leaf2.back (0 : Nat) [((2 : Nat), AV.ptr (0 : Nat) (0 : Nat)), ((3 : Nat), AV.ptr (1 : Nat) (0 : Nat)), ((5 : Nat), AV.int IntKind.i64 ((↑i : Int) + (1 : Int))), ((6 : Nat), AV.undef)] [Blk.box [AV.sl (List.length f) (3 : Nat) (fxG f), AV.sl (List.length c) (4 : Nat) (chG c)], Blk.box [AV.sl (List.length f2) (3 : Nat) (fxG f2), AV.sl (List.length c2) (4 : Nat) (chG c2)]])))))) (Tree.leaf (Leaf2.loop (Prod.fst (lps (inside K14 (0 : Nat)) (0 : Nat))) (Prod.snd (lps (inside K14 (0 : Nat)) (0 : Nat))) [((2 : Nat), AV.ptr (0 : Nat) (0 : Nat)), ((3 : Nat), AV.ptr (1 : Nat) (0 : Nat)), ((5 : Nat), AV.int IntKind.i64 (↑i : Int)), ((6 : Nat), AV.int IntKind.i64 (0 : Int))] [Blk.box [AV.sl (List.length f) (3 : Nat) (fxG f), AV.sl (List.length c) (4 : Nat) (chG c)], Blk.box [AV.sl (List.length f2) (3 : Nat) (fxG f2), AV.sl (List.length c2) (4 : Nat) (chG c2)]]))) (by kernel_rfl) ?_
      simp only [Tree.holds, Leafs2, inR, lo, hi, Int.toNat_natCast]
      refine ⟨fun hlt => ?_, fun hge => ?_⟩
      · have hlt : i < f.length := by have := of_decide_eq_true hlt; omega
        refine ⟨by omega, fun _ => ⟨by omega, fun _ => ⟨fun h => ?_, fun h => ⟨by omega, fun _ => ?_⟩⟩⟩⟩
        · refine RetR.scal (hq false ⟨fun h => (by cases h), fun he => ?_⟩) rfl (by simp [resV])
          have hc : f = f2 := (Prod.mk.inj he).1
          have := Fx.eq_iff.2 (show f.getD i Fx.nil = f2.getD i Fx.nil by rw [hc])
          rw [this] at h; cases h
        · rw [if_pos trivial]
          have he := Fx.eq_iff.1 (by simpa only [Bool.not_eq_false'] using h)
          refine ⟨⟨i + 1, hlt, fun j hj => ?_⟩, by show f.length - (i + 1) < f.length - i; omega, by simp [SSE], by simp [HSE, fxS, chS, eqG_refl], by kernel_rfl, Nat.zero_le _⟩
          rcases Nat.lt_or_ge j i with h1 | h1
          · exact hib j h1
          · have : j = i := by omega
            rw [this]; exact he
      · have hge : i = f.length := by have := of_decide_eq_false hge; omega
        subst hge
        have hf := list_ext hl.1 hib
        exact sameE_loop2 f f2 c c2 h2 hf hl.2 hq _ _ ⟨by simp [SSE2], by simp [HSE, fxS, chS, eqG_refl], by kernel_rfl, Nat.zero_le _⟩
end Go.Proofs.Try
end

/- What is known: the reference's checks, finding, copies. -/
section
set_option linter.unusedVariables false
set_option linter.unusedSimpArgs false
set_option maxRecDepth 100000
open Go Go.Sx Go.Proofs Go.Nov
namespace Go.Proofs.Try
attribute [local simp] eqKV eqA eqA0 eqH eqB eqL eqL0
noncomputable def K26 : List Go.Sx.Item := [.code (Try.f26.body.getD .skip)]
noncomputable def K30 : List Go.Sx.Item := [.code (Try.f30.body.getD .skip)]
noncomputable def K13 : List Go.Sx.Item := [.code (Try.f13.body.getD .skip)]
noncomputable def K11 : List Go.Sx.Item := [.code (Try.f11.body.getD .skip)]
noncomputable def K16 : List Go.Sx.Item := [.code (Try.f16.body.getD .skip)]

def beforeFC : Ctr := ctrP true (fun p : Fx × Fx => [p.1.av, p.2.av]) (fun _ => True) (fun p r => r = decide (cmpF p.1 p.2 < 0)) (fun _ (r : Bool) => (.bool r, []))
def beforeCC : Ctr := ctrP true (fun p : Ch × Ch => [p.1.av, p.2.av]) (fun _ => True) (fun p r => r = decide (cmpC p.1 p.2 < 0)) (fun _ (r : Bool) => (.bool r, []))
theorem beforeF_ok : CtrOK Try.prog 26 beforeFC := by
  refine fn_ctrP (fn := Try.f26) (c := Try.f26.body.getD .skip) rfl rfl rfl fun p hs O w0 Q hq => ?_
  obtain ⟨⟨a, d, v⟩, ⟨b, e, u⟩⟩ := p
  replace hq := hq _ rfl
  simp only at hq
  refine SafeK.run (k := K26) hmix noG_ok [] 400 (T := Tree.leaf (Leaf2.ret [AV.bool (bif Op.bytesLess a b then true else bif decide (a = b) then decide (d < e) else false)] [Blk.box [AV.str a, AV.int IntKind.i64 d, AV.str v], Blk.box [AV.str b, AV.int IntKind.i64 e, AV.str u]])) (by kernel_rfl) ?_
  simp only [Tree.holds, Leafs2]
  refine RetR.scal hq rfl ?_
  simp only [resV, cmpF]
  rw [before_step (n := cmpI d e) (by simp only [cmpI_lt])]
theorem beforeC_ok : CtrOK Try.prog 30 beforeCC := by
  refine fn_ctrP (fn := Try.f30) (c := Try.f30.body.getD .skip) rfl rfl rfl fun p hs O w0 Q hq => ?_
  obtain ⟨⟨a, v, d, x⟩, ⟨b, u, e, y⟩⟩ := p
  replace hq := hq _ rfl
  simp only at hq
  refine SafeK.run (k := K30) hmix noG_ok [] 400 (T := Tree.ite (!decide (a = b)) (Tree.leaf (Leaf2.ret [AV.bool (Op.bytesLess a b)] [Blk.box [AV.str a, AV.str v, AV.int IntKind.i64 d, AV.bool x], Blk.box [AV.str b, AV.str u, AV.int IntKind.i64 e, AV.bool y]])) (Tree.leaf (Leaf2.ret [AV.bool (bif Op.bytesLess v u then true else bif decide (v = u) then decide (d < e) else false)] [Blk.box [AV.str a, AV.str v, AV.int IntKind.i64 d, AV.bool x], Blk.box [AV.str b, AV.str u, AV.int IntKind.i64 e, AV.bool y]]))) (by kernel_rfl) ?_
  simp only [Tree.holds, Leafs2]
  refine ⟨fun h => ?_, fun h => ?_⟩
  · refine RetR.scal hq rfl ?_
    have h : a ≠ b := by simpa using h
    simp only [resV, cmpC]
    rw [if_neg (fun h2 => h (cmpS_eq.1 h2))]
    simp only [cmpS_lt]
    cases Op.bytesLess a b <;> rfl
  · refine RetR.scal hq rfl ?_
    have h : a = b := by simpa using h
    simp only [resV, cmpC]
    rw [if_pos (cmpS_eq.2 h), before_step (n := cmpI d e) (by simp only [cmpI_lt])]
def GV1 : Nat → Option Ctr := fun f => if f = 23 then some nameC else if f = 24 then some withinC else if f = 25 then some qrcheckC else if f = 26 then some beforeFC else if f = 30 then some beforeCC else none
theorem GV1_ok : ∀ g c, GV1 g = some c → CtrOK Try.prog g c := by
  intro g c h
  simp only [GV1] at h
  split at h
  · rename_i hg; subst hg; cases h; exact rname_ok
  split at h
  · rename_i hg; subst hg; cases h; exact rday_ok
  split at h
  · rename_i hg; subst hg; cases h; exact qrcheck_ok
  split at h
  · rename_i hg; subst hg; cases h; exact beforeF_ok
  split at h
  · rename_i hg; subst hg; cases h; exact beforeC_ok
  cases h

def HE (f : List Fx) (c : List Ch) : Heap := [.box [fxS f, chS c]]
def SCE1 (i : Nat) : KV := [(1, .ptr 0 0), (3, .int .i64 (i : Int)), (5, .undef), (34, .undef), (35, .undef), (36, .undef), (37, .undef), (40, .undef), (41, .undef), (42, .undef), (43, .undef), (46, .undef), (47, .undef), (48, .undef), (49, .undef), (50, .undef), (51, .undef), (52, .undef), (53, .undef), (54, .undef), (55, .undef), (56, .undef), (57, .undef), (58, .undef), (77, .undef), (78, .undef), (79, .undef), (80, .undef), (83, .undef), (84, .undef), (85, .undef), (86, .undef), (89, .undef), (90, .undef), (91, .undef), (92, .undef), (93, .undef), (94, .undef), (95, .undef), (96, .undef), (97, .undef), (98, .undef), (99, .undef), (100, .undef), (101, .undef)]
def SCE2 (i : Nat) : KV := [(1, .ptr 0 0), (3, .undef), (5, .int .i64 (i : Int)), (34, .undef), (35, .undef), (36, .undef), (37, .undef), (40, .undef), (41, .undef), (42, .undef), (43, .undef), (46, .undef), (47, .undef), (48, .undef), (49, .undef), (50, .undef), (51, .undef), (52, .undef), (53, .undef), (54, .undef), (55, .undef), (56, .undef), (57, .undef), (58, .undef), (77, .undef), (78, .undef), (79, .undef), (80, .undef), (83, .undef), (84, .undef), (85, .undef), (86, .undef), (89, .undef), (90, .undef), (91, .undef), (92, .undef), (93, .undef), (94, .undef), (95, .undef), (96, .undef), (97, .undef), (98, .undef), (99, .undef), (100, .undef), (101, .undef)]
def SFi (a : List UInt8) (d : Int) (i : Nat) : KV := [(1, .str a), (2, .int .i64 d), (3, .ptr 0 0), (8, .int .i64 (i : Int)), (25, .undef), (26, .undef), (27, .undef), (28, .undef), (29, .undef), (30, .undef), (31, .undef), (32, .undef)]
def SCh (a b : List UInt8) (d : Int) (i : Nat) : KV := [(1, .str a), (2, .str b), (3, .int .i64 d), (4, .ptr 0 0), (9, .int .i64 (i : Int)), (28, .undef), (29, .undef), (30, .undef), (31, .undef), (34, .undef), (35, .undef), (36, .undef), (37, .undef)]
def SGe (n i : Nat) : KV := [(1, .ptr 0 0), (3, .int .i64 (n : Int)), (4, .int .i64 (i : Int)), (5, .undef)]
def checkErC : Ctr := checkEC
theorem checkEr_loop2 {O : Nat → Prop} {w0 : World} {Q : AV × Heap → Prop} {Hs : Nat → KV → Heap → Prop} (f : List Fx) (c : List Ch) (hbig : ¬ (1000 < f.length ∨ 1000 < c.length)) (hs : ∀ j, j < c.length → smallC (c.getD j Ch.nil)) (hf1 : f.all okF = true) (hf2 : ordB cmpF Fx.nil f = true)
    (hq : ∀ r, r = errE f c → Q (.int .i64 r, [])) (kv : KV) (h : Heap) (hle : LeK 0 Try.f13.ntmps kv h (SCE2 0) (HE f c)) :
    SafeK Try.prog Try.f13 O 0 w0 [] Hs (RetR checkEC 0 Q) (.code (.loop (lps (inside K13 0) 0).1) :: (lps (inside K13 0) 0).2) (mk Try.f13.ntmps kv h) := by
  refine SafeK.loop (ι := {i : Nat // i ≤ c.length ∧ (∀ j, j < i → okC (c.getD j Ch.nil) = true) ∧ ∀ j, j + 1 < i → cmpC (c.getD j Ch.nil) (c.getD (j + 1) Ch.nil) < 0}) (fun i => SCE2 i.1) (fun _ => HE f c) (fun i => c.length - i.1) ⟨0, Nat.zero_le _, fun j hj => by omega, fun j hj => by omega⟩ 0 hle ?_ (by kernel_rfl)
  rintro ⟨i, hil, hib, hio⟩
  refine SafeK.run (k := inside (inside K13 0) 0) hmix GV1_ok [1, 3, 5, 34, 35, 36, 37, 40, 41, 42, 43, 46, 47, 48, 49, 50, 51, 52, 53, 54, 55, 56, 57, 58, 77, 78, 79, 80, 83, 84, 85, 86, 89, 90, 91, 92, 93, 94, 95, 96, 97, 98, 99, 100, 101] 400 (T := Tree.ite (decide ((↑i : Int) < (↑(List.length c) : Int))) (Tree.side ((0 : Int) ≤ (↑i : Int) ∧ (↑i : Int) < (↑(List.length c) : Int)) (Tree.ex (fun (x : List UInt8) => eqL [AV.str (Ch.party (List.getD c (Int.toNat (↑i : Int)) Ch.nil))] [AV.str x] ∧ List.length x < (4611686018427387904 : Nat)) fun (n : List UInt8) => Tree.all (fun (r : Bool) => r = nameB n) fun (n : Bool) => Tree.ex (fun (x : List UInt8) => (!n) = false → eqL [AV.str (Ch.name (List.getD c (Int.toNat (↑i : Int)) Ch.nil))] [AV.str x] ∧ List.length x < (4611686018427387904 : Nat)) fun (n_1 : List UInt8) => Tree.all (fun (x : Bool) => (!n) = false → x = nameB n_1) fun (n_2 : Bool) => Tree.ex (fun (x : Int) => (bif !n then true else !n_2) = false → eqL [AV.int IntKind.i64 (Ch.date (List.getD c (Int.toNat (↑i : Int)) Ch.nil))] [AV.int IntKind.i64 x] ∧ True) fun (n_3 : Int) => Tree.all (fun (x : Bool) => (bif !n then true else !n_2) = false → x = dayB n_3) fun (n_4 : Bool) => Tree.side ((bif bif !n then true else !n_2 then true else !n_4) = false ∧ decide ((0 : Int) < (↑i : Int)) = true → inR IntKind.i64 ((↑i : Int) - (1 : Int))) (Tree.side ((bif bif !n then true else !n_2 then true else !n_4) = false ∧ decide ((0 : Int) < (↑i : Int)) = true → (0 : Int) ≤ (↑i : Int) - (1 : Int) ∧ (↑i : Int) - (1 : Int) < (↑(List.length c) : Int)) (Tree.ex (fun (x : Ch × Ch) => (bif bif !n then true else !n_2 then true else !n_4) = false ∧ decide ((0 : Int) < (↑i : Int)) = true → eqL [AV.agg [AV.str (Ch.party (List.getD c (Int.toNat ((↑i : Int) - (1 : Int))) Ch.nil)), AV.str (Ch.name (List.getD c (Int.toNat ((↑i : Int) - (1 : Int))) Ch.nil)), AV.int IntKind.i64 (Ch.date (List.getD c (Int.toNat ((↑i : Int) - (1 : Int))) Ch.nil)), AV.bool (Ch.first (List.getD c (Int.toNat ((↑i : Int) - (1 : Int))) Ch.nil))], AV.agg [AV.str (Ch.party (List.getD c (Int.toNat (↑i : Int)) Ch.nil)), AV.str (Ch.name (List.getD c (Int.toNat (↑i : Int)) Ch.nil)), AV.int IntKind.i64 (Ch.date (List.getD c (Int.toNat (↑i : Int)) Ch.nil)), AV.bool (Ch.first (List.getD c (Int.toNat (↑i : Int)) Ch.nil))]] [AV.agg [AV.str (Ch.party (Prod.fst x)), AV.str (Ch.name (Prod.fst x)), AV.int IntKind.i64 (Ch.date (Prod.fst x)), AV.bool (Ch.first (Prod.fst x))], AV.agg [AV.str (Ch.party (Prod.snd x)), AV.str (Ch.name (Prod.snd x)), AV.int IntKind.i64 (Ch.date (Prod.snd x)), AV.bool (Ch.first (Prod.snd x))]] ∧ True) fun (n_5 : Ch × Ch) => Tree.all (fun (x : Bool) => (bif bif !n then true else !n_2 then true else !n_4) = false ∧ decide ((0 : Int) < (↑i : Int)) = true → x = decide (cmpC (Prod.fst n_5) (Prod.snd n_5) < (0 : Int))) fun (n_6 : Bool) => Tree.ite (bif bif bif !n then true else !n_2 then true else !n_4 then true else bif decide ((0 : Int) < (↑i : Int)) then !n_6 else false) (Tree.leaf (Leaf2.ret [AV.int IntKind.i64 (8 : Int)] [Blk.box [AV.sl (List.length f) (3 : Nat) (fxG f), AV.sl (List.length c) (4 : Nat) (chG c)], Blk.box [AV.str (Ch.party (List.getD c (Int.toNat (↑i : Int)) Ch.nil)), AV.str (Ch.name (List.getD c (Int.toNat (↑i : Int)) Ch.nil)), AV.int IntKind.i64 (Ch.date (List.getD c (Int.toNat (↑i : Int)) Ch.nil)), AV.bool (Ch.first (List.getD c (Int.toNat (↑i : Int)) Ch.nil))]])) (Tree.side (inR IntKind.i64 ((↑i : Int) + (1 : Int))) (Tree.leaf (Leaf2.back (0 : Nat) [((1 : Nat), AV.ptr (0 : Nat) (0 : Nat)), ((3 : Nat), AV.undef), ((5 : Nat), AV.int IntKind.i64 ((↑i : Int) + (1 : Int))), ((34 : Nat), AV.undef), ((35 : Nat), AV.undef), ((36 : Nat), AV.undef), ((37 : Nat), AV.undef), ((40 : Nat), AV.undef), ((41 : Nat), AV.undef), ((42 : Nat), AV.undef), ((43 : Nat), AV.undef), ((46 : Nat), AV.undef), ((47 : Nat), AV.undef), ((48 : Nat), AV.undef), ((49 : Nat), AV.undef), ((50 : Nat), AV.undef), ((51 : Nat), AV.undef), ((52 : Nat), AV.undef), ((53 : Nat), AV.undef), ((54 : Nat), AV.undef), ((55 : Nat), AV.undef), ((56 : Nat), AV.undef), ((57 : Nat), AV.undef), ((58 : Nat), AV.undef), ((77 : Nat), AV.undef), ((78 : Nat), AV.undef), ((79 : Nat), AV.undef), ((80 : Nat), AV.undef), ((83 : Nat), AV.undef), ((84 : Nat), AV.undef), ((85 : Nat), AV.undef), ((86 : Nat), AV.undef), ((89 : Nat), AV.undef), ((90 : Nat), AV.undef), ((91 : Nat), AV.undef), ((92 : Nat), AV.undef), ((93 : Nat), AV.undef), ((94 : Nat), AV.undef), ((95 : Nat), AV.undef), ((96 : Nat), AV.undef), ((97 : Nat), AV.undef), ((98 : Nat), AV.undef), ((99 : Nat), AV.undef), ((100 : Nat), AV.undef), ((101 : Nat), AV.undef)] [Blk.box [AV.sl (List.length f) (3 : Nat) (fxG f), AV.sl (List.length c) (4 : Nat) (chG c)], Blk.box [AV.str (Ch.party (List.getD c (Int.toNat (↑i : Int)) Ch.nil)), AV.str (Ch.name (List.getD c (Int.toNat (↑i : Int)) Ch.nil)), AV.int IntKind.i64 (Ch.date (List.getD c (Int.toNat (↑i : Int)) Ch.nil)), AV.bool (Ch.first (List.getD c (Int.toNat (↑i : Int)) Ch.nil))]]))))))) (Tree.leaf (Leaf2.ret [AV.int IntKind.i64 (0 : Int)] [Blk.box [AV.sl (List.length f) (3 : Nat) (fxG f), AV.sl (List.length c) (4 : Nat) (chG c)]]))) (by kernel_rfl) ?_
  simp only [Tree.holds, Leafs2, inR, lo, hi, Int.toNat_natCast]
  refine ⟨fun hlt => ?_, fun hge => ?_⟩
  · have hlt : i < c.length := by have := of_decide_eq_true hlt; omega
    obtain ⟨hs1, hs2⟩ := hs i hlt
    have e : ((i : Int) - 1).toNat = i - 1 := by omega
    simp only [e]
    have hi0 : ∀ {b : Bool}, b = false ∧ decide (0 < (i : Int)) = true → 0 < i := fun h => by have := of_decide_eq_true h.2; omega
    refine ⟨by omega, fun _ => ⟨(c.getD i Ch.nil).party, ⟨by simp, by omega⟩, ⟨_, rfl⟩, ?_⟩⟩
    rintro _ rfl
    refine ⟨(c.getD i Ch.nil).name, fun _ => ⟨by simp, by omega⟩, ⟨_, fun _ => rfl⟩, ?_⟩
    intro b1 g1
    refine ⟨(c.getD i Ch.nil).date, fun _ => ⟨by simp, trivial⟩, ⟨_, fun _ => rfl⟩, ?_⟩
    intro b2 g2
    refine ⟨fun h => by have := hi0 h; omega, fun _ => ⟨fun h => by have := hi0 h; omega, fun _ => ⟨(c.getD (i - 1) Ch.nil, c.getD i Ch.nil), fun _ => ⟨by simp, trivial⟩, ⟨_, fun _ => rfl⟩, ?_⟩⟩⟩
    intro b3 g3
    have hok : okC (c.getD i Ch.nil) = (nameB (c.getD i Ch.nil).party && nameB (c.getD i Ch.nil).name && dayB (c.getD i Ch.nil).date) := rfl
    simp only at g3
    generalize nameB (c.getD i Ch.nil).party = p1 at *
    generalize nameB (c.getD i Ch.nil).name = p2 at *
    generalize dayB (c.getD i Ch.nil).date = p3 at *
    have key : (bif bif !p1 then true else !b1 then true else !b2) = !okC (c.getD i Ch.nil) := by
      rw [hok]
      cases p1 with
      | false => rfl
      | true =>
        have g1 := g1 rfl
        subst g1
        cases b1 with
        | false => rfl
        | true => have g2 := g2 rfl; subst g2; rfl
    rw [key] at g3 ⊢
    refine ⟨fun h => ?_, fun h => ⟨by omega, fun _ => ?_⟩⟩
    · refine RetR.scal (hq 8 (errE_8 hbig ?_).symm) rfl (by simp [resV])
      cases hk : okC (c.getD i Ch.nil) with
      | false =>
        have := all_not hlt hk
        rw [this]; simp
      | true =>
        rw [hk] at h g3
        simp only [Bool.not_true, cond_false] at h
        cases h0 : decide (0 < (i : Int)) with
        | false => rw [h0] at h; cases h
        | true =>
          rw [h0] at h
          have hi1 : 0 < i := by have := of_decide_eq_true h0; omega
          have g3 := g3 ⟨rfl, h0⟩
          rw [g3] at h
          simp only [cond_true, Bool.not_eq_true', decide_eq_false_iff_not] at h
          have e2 : i - 1 + 1 = i := by omega
          have := ordB_not (l := c) (c := cmpC) (z := Ch.nil) (j := i - 1) (by omega) (by rw [e2]; exact h)
          rw [this]; simp
    · have hk : okC (c.getD i Ch.nil) = true := by
        cases hk : okC (c.getD i Ch.nil) with
        | true => rfl
        | false => rw [hk] at h; cases h
      rw [hk] at h g3
      rw [if_pos trivial]
      refine ⟨⟨i + 1, hlt, fun j hj => ?_, fun j hj => ?_⟩, by show c.length - (i + 1) < c.length - i; omega, by simp [SCE2], by simp [HE, fxS, chS, eqG_refl], by kernel_rfl, Nat.zero_le _⟩
      · rcases Nat.lt_or_ge j i with h1 | h1
        · exact hib j h1
        · have : j = i := by omega
          rw [this]; exact hk
      · rcases Nat.lt_or_ge (j + 1) i with h1 | h1
        · exact hio j h1
        · have e2 : j + 1 = i := by omega
          have e3 : j = i - 1 := by omega
          have h0 : decide (0 < (i : Int)) = true := decide_eq_true (by omega)
          have g3 := g3 ⟨rfl, h0⟩
          simp only [Bool.not_true, cond_false, h0, cond_true] at h
          rw [e2, e3]
          exact of_decide_eq_true (by rw [← g3]; simpa using h)
  · have hge : i = c.length := by have := of_decide_eq_false hge; omega
    subst hge
    refine RetR.scal (hq 0 (errE_0.2 ⟨hbig, hf1, all_of hib, hf2, ordB_all hio⟩).symm) rfl (by simp [resV])
theorem checkEr_ok : CtrOK Try.prog 13 checkEC := by
  refine fn_ctrP (fn := Try.f13) (c := Try.f13.body.getD .skip) rfl rfl rfl fun p hp O w0 Q hq => ?_
  obtain ⟨f, c⟩ := p
  obtain ⟨h1, h2, h3, h4⟩ := hp
  simp only at hq h1 h2 h3 h4
  refine SafeK.run (k := K13) hmix GV1_ok [1, 3, 5, 34, 35, 36, 37, 40, 41, 42, 43, 46, 47, 48, 49, 50, 51, 52, 53, 54, 55, 56, 57, 58, 77, 78, 79, 80, 83, 84, 85, 86, 89, 90, 91, 92, 93, 94, 95, 96, 97, 98, 99, 100, 101] 400 (T := Tree.ite (bif decide ((1000 : Int) < (↑(List.length f) : Int)) then true else decide ((1000 : Int) < (↑(List.length c) : Int))) (Tree.leaf (Leaf2.ret [AV.int IntKind.i64 (4 : Int)] [Blk.box [AV.sl (List.length f) (3 : Nat) (fxG f), AV.sl (List.length c) (4 : Nat) (chG c)]])) (Tree.leaf (Leaf2.loop (Prod.fst (lps K13 (0 : Nat))) (Prod.snd (lps K13 (0 : Nat))) [((1 : Nat), AV.ptr (0 : Nat) (0 : Nat)), ((3 : Nat), AV.int IntKind.i64 (0 : Int)), ((5 : Nat), AV.undef), ((34 : Nat), AV.undef), ((35 : Nat), AV.undef), ((36 : Nat), AV.undef), ((37 : Nat), AV.undef), ((40 : Nat), AV.undef), ((41 : Nat), AV.undef), ((42 : Nat), AV.undef), ((43 : Nat), AV.undef), ((46 : Nat), AV.undef), ((47 : Nat), AV.undef), ((48 : Nat), AV.undef), ((49 : Nat), AV.undef), ((50 : Nat), AV.undef), ((51 : Nat), AV.undef), ((52 : Nat), AV.undef), ((53 : Nat), AV.undef), ((54 : Nat), AV.undef), ((55 : Nat), AV.undef), ((56 : Nat), AV.undef), ((57 : Nat), AV.undef), ((58 : Nat), AV.undef), ((77 : Nat), AV.undef), ((78 : Nat), AV.undef), ((79 : Nat), AV.undef), ((80 : Nat), AV.undef), ((83 : Nat), AV.undef), ((84 : Nat), AV.undef), ((85 : Nat), AV.undef), ((86 : Nat), AV.undef), ((89 : Nat), AV.undef), ((90 : Nat), AV.undef), ((91 : Nat), AV.undef), ((92 : Nat), AV.undef), ((93 : Nat), AV.undef), ((94 : Nat), AV.undef), ((95 : Nat), AV.undef), ((96 : Nat), AV.undef), ((97 : Nat), AV.undef), ((98 : Nat), AV.undef), ((99 : Nat), AV.undef), ((100 : Nat), AV.undef), ((101 : Nat), AV.undef)] [Blk.box [AV.sl (List.length f) (3 : Nat) (fxG f), AV.sl (List.length c) (4 : Nat) (chG c)]]))) (by kernel_rfl) ?_
  simp only [Tree.holds, Leafs2]
  refine ⟨fun h => ?_, fun h => ?_⟩
  · have h : 1000 < f.length ∨ 1000 < c.length := by
      rw [Bool.cond_eq_ite] at h
      split at h
      · rename_i h1; left; have := of_decide_eq_true h1; omega
      · right; have := of_decide_eq_true h; omega
    exact RetR.scal (hq 4 (if_pos h).symm) rfl (by simp [resV])
  · have hbig : ¬ (1000 < f.length ∨ 1000 < c.length) := by
      rw [Bool.cond_eq_ite] at h
      split at h
      · cases h
      · rename_i h1
        have h2 := of_decide_eq_false h
        rintro (h3 | h3)
        · exact h1 (decide_eq_true (by omega))
        · omega
    refine SafeK.loop (ι := {i : Nat // i ≤ f.length ∧ (∀ j, j < i → okF (f.getD j Fx.nil) = true) ∧ ∀ j, j + 1 < i → cmpF (f.getD j Fx.nil) (f.getD (j + 1) Fx.nil) < 0}) (fun i => SCE1 i.1) (fun _ => HE f c) (fun i => f.length - i.1) ⟨0, Nat.zero_le _, fun j hj => by omega, fun j hj => by omega⟩ 0 ?_ ?_ (by kernel_rfl)
    · exact ⟨by simp [SCE1], by simp [HE, fxS, chS, eqG_refl], by kernel_rfl, Nat.zero_le _⟩
    · rintro ⟨i, hil, hib, hio⟩
      refine SafeK.run (k := inside K13 0) hmix GV1_ok [1, 3, 5, 34, 35, 36, 37, 40, 41, 42, 43, 46, 47, 48, 49, 50, 51, 52, 53, 54, 55, 56, 57, 58, 77, 78, 79, 80, 83, 84, 85, 86, 89, 90, 91, 92, 93, 94, 95, 96, 97, 98, 99, 100, 101] 400 (T := Tree.ite (decide ((↑i : Int) < (↑(List.length f) : Int))) (Tree.side ((0 : Int) ≤ (↑i : Int) ∧ (↑i : Int) < (↑(List.length f) : Int)) (Tree.ex (fun (x : List UInt8) => eqL [AV.str (Fx.name (List.getD f (Int.toNat (↑i : Int)) Fx.nil))] [AV.str x] ∧ List.length x < (4611686018427387904 : Nat)) fun (n : List UInt8) => Tree.all (fun (r : Bool) => r = nameB n) fun (n : Bool) => Tree.ex (fun (x : Int) => (!n) = false → eqL [AV.int IntKind.i64 (Fx.date (List.getD f (Int.toNat (↑i : Int)) Fx.nil))] [AV.int IntKind.i64 x] ∧ True) fun (n_1 : Int) => Tree.all (fun (x : Bool) => (!n) = false → x = dayB n_1) fun (n_2 : Bool) => Tree.ex (fun (x : List UInt8) => (bif !n then true else !n_2) = false → eqL [AV.str (Fx.value (List.getD f (Int.toNat (↑i : Int)) Fx.nil))] [AV.str x] ∧ List.length x < (1099511627776 : Nat)) fun (n_3 : List UInt8) => Tree.all (fun (x : Int) => (bif !n then true else !n_2) = false → x = errR n_3) fun (n_4 : Int) => Tree.side ((bif bif !n then true else !n_2 then true else !decide (n_4 = (0 : Int))) = false ∧ decide ((0 : Int) < (↑i : Int)) = true → inR IntKind.i64 ((↑i : Int) - (1 : Int))) (Tree.side ((bif bif !n then true else !n_2 then true else !decide (n_4 = (0 : Int))) = false ∧ decide ((0 : Int) < (↑i : Int)) = true → (0 : Int) ≤ (↑i : Int) - (1 : Int) ∧ (↑i : Int) - (1 : Int) < (↑(List.length f) : Int)) (Tree.ex (fun (x : Fx × Fx) => (bif bif !n then true else !n_2 then true else !decide (n_4 = (0 : Int))) = false ∧ decide ((0 : Int) < (↑i : Int)) = true → eqL [AV.agg [AV.str (Fx.name (List.getD f (Int.toNat ((↑i : Int) - (1 : Int))) Fx.nil)), AV.int IntKind.i64 (Fx.date (List.getD f (Int.toNat ((↑i : Int) - (1 : Int))) Fx.nil)), AV.str (Fx.value (List.getD f (Int.toNat ((↑i : Int) - (1 : Int))) Fx.nil))], AV.agg [AV.str (Fx.name (List.getD f (Int.toNat (↑i : Int)) Fx.nil)), AV.int IntKind.i64 (Fx.date (List.getD f (Int.toNat (↑i : Int)) Fx.nil)), AV.str (Fx.value (List.getD f (Int.toNat (↑i : Int)) Fx.nil))]] [AV.agg [AV.str (Fx.name (Prod.fst x)), AV.int IntKind.i64 (Fx.date (Prod.fst x)), AV.str (Fx.value (Prod.fst x))], AV.agg [AV.str (Fx.name (Prod.snd x)), AV.int IntKind.i64 (Fx.date (Prod.snd x)), AV.str (Fx.value (Prod.snd x))]] ∧ True) fun (n_5 : Fx × Fx) => Tree.all (fun (x : Bool) => (bif bif !n then true else !n_2 then true else !decide (n_4 = (0 : Int))) = false ∧ decide ((0 : Int) < (↑i : Int)) = true → x = decide (cmpF (Prod.fst n_5) (Prod.snd n_5) < (0 : Int))) fun (n_6 : Bool) => Tree.ite (bif bif bif !n then true else !n_2 then true else !decide (n_4 = (0 : Int)) then true else bif decide ((0 : Int) < (↑i : Int)) then !n_6 else false) (Tree.leaf (Leaf2.ret [AV.int IntKind.i64 (8 : Int)] [Blk.box [AV.sl (List.length f) (3 : Nat) (fxG f), AV.sl (List.length c) (4 : Nat) (chG c)], Blk.box [AV.str (Fx.name (List.getD f (Int.toNat (↑i : Int)) Fx.nil)), AV.int IntKind.i64 (Fx.date (List.getD f (Int.toNat (↑i : Int)) Fx.nil)), AV.str (Fx.value (List.getD f (Int.toNat (↑i : Int)) Fx.nil))]])) (Tree.side (inR IntKind.i64 ((↑i : Int) + (1 : Int))) (Tree.leaf (Leaf2.back (0 : Nat) [((1 : Nat), AV.ptr (0 : Nat) (0 : Nat)), ((3 : Nat), AV.int IntKind.i64 ((↑i : Int) + (1 : Int))), ((5 : Nat), AV.undef), ((34 : Nat), AV.undef), ((35 : Nat), AV.undef), ((36 : Nat), AV.undef), ((37 : Nat), AV.undef), ((40 : Nat), AV.undef), ((41 : Nat), AV.undef), ((42 : Nat), AV.undef), ((43 : Nat), AV.undef), ((46 : Nat), AV.undef), ((47 : Nat), AV.undef), ((48 : Nat), AV.undef), ((49 : Nat), AV.undef), ((50 : Nat), AV.undef), ((51 : Nat), AV.undef), ((52 : Nat), AV.undef), ((53 : Nat), AV.undef), ((54 : Nat), AV.undef), ((55 : Nat), AV.undef), ((56 : Nat), AV.undef), ((57 : Nat), AV.undef), ((58 : Nat), AV.undef), ((77 : Nat), AV.undef), ((78 : Nat), AV.undef), ((79 : Nat), AV.undef), ((80 : Nat), AV.undef), ((83 : Nat), AV.undef), ((84 : Nat), AV.undef), ((85 : Nat), AV.undef), ((86 : Nat), AV.undef), ((89 : Nat), AV.undef), ((90 : Nat), AV.undef), ((91 : Nat), AV.undef), ((92 : Nat), AV.undef), ((93 : Nat), AV.undef), ((94 : Nat), AV.undef), ((95 : Nat), AV.undef), ((96 : Nat), AV.undef), ((97 : Nat), AV.undef), ((98 : Nat), AV.undef), ((99 : Nat), AV.undef), ((100 : Nat), AV.undef), ((101 : Nat), AV.undef)] [Blk.box [AV.sl (List.length f) (3 : Nat) (fxG f), AV.sl (List.length c) (4 : Nat) (chG c)], Blk.box [AV.str (Fx.name (List.getD f (Int.toNat (↑i : Int)) Fx.nil)), AV.int IntKind.i64 (Fx.date (List.getD f (Int.toNat (↑i : Int)) Fx.nil)), AV.str (Fx.value (List.getD f (Int.toNat (↑i : Int)) Fx.nil))]]))))))) (Tree.leaf (Leaf2.loop (Prod.fst (lps (inside K13 (0 : Nat)) (0 : Nat))) (Prod.snd (lps (inside K13 (0 : Nat)) (0 : Nat))) [((1 : Nat), AV.ptr (0 : Nat) (0 : Nat)), ((3 : Nat), AV.int IntKind.i64 (↑i : Int)), ((5 : Nat), AV.int IntKind.i64 (0 : Int)), ((34 : Nat), AV.undef), ((35 : Nat), AV.undef), ((36 : Nat), AV.undef), ((37 : Nat), AV.undef), ((40 : Nat), AV.undef), ((41 : Nat), AV.undef), ((42 : Nat), AV.undef), ((43 : Nat), AV.undef), ((46 : Nat), AV.undef), ((47 : Nat), AV.undef), ((48 : Nat), AV.undef), ((49 : Nat), AV.undef), ((50 : Nat), AV.undef), ((51 : Nat), AV.undef), ((52 : Nat), AV.undef), ((53 : Nat), AV.undef), ((54 : Nat), AV.undef), ((55 : Nat), AV.undef), ((56 : Nat), AV.undef), ((57 : Nat), AV.undef), ((58 : Nat), AV.undef), ((77 : Nat), AV.undef), ((78 : Nat), AV.undef), ((79 : Nat), AV.undef), ((80 : Nat), AV.undef), ((83 : Nat), AV.undef), ((84 : Nat), AV.undef), ((85 : Nat), AV.undef), ((86 : Nat), AV.undef), ((89 : Nat), AV.undef), ((90 : Nat), AV.undef), ((91 : Nat), AV.undef), ((92 : Nat), AV.undef), ((93 : Nat), AV.undef), ((94 : Nat), AV.undef), ((95 : Nat), AV.undef), ((96 : Nat), AV.undef), ((97 : Nat), AV.undef), ((98 : Nat), AV.undef), ((99 : Nat), AV.undef), ((100 : Nat), AV.undef), ((101 : Nat), AV.undef)] [Blk.box [AV.sl (List.length f) (3 : Nat) (fxG f), AV.sl (List.length c) (4 : Nat) (chG c)]]))) (by kernel_rfl) ?_
      simp only [Tree.holds, Leafs2, inR, lo, hi, Int.toNat_natCast]
      refine ⟨fun hlt => ?_, fun hge => ?_⟩
      · have hlt : i < f.length := by have := of_decide_eq_true hlt; omega
        obtain ⟨hs1, hs2⟩ := h3 i hlt
        have e : ((i : Int) - 1).toNat = i - 1 := by omega
        simp only [e]
        have hi0 : ∀ {b : Bool}, b = false ∧ decide (0 < (i : Int)) = true → 0 < i := fun h => by have := of_decide_eq_true h.2; omega
        refine ⟨by omega, fun _ => ⟨(f.getD i Fx.nil).name, ⟨by simp, by omega⟩, ⟨_, rfl⟩, ?_⟩⟩
        rintro _ rfl
        refine ⟨(f.getD i Fx.nil).date, fun _ => ⟨by simp, trivial⟩, ⟨_, fun _ => rfl⟩, ?_⟩
        intro b1 g1
        refine ⟨(f.getD i Fx.nil).value, fun _ => ⟨by simp, by omega⟩, ⟨_, fun _ => rfl⟩, ?_⟩
        intro b2 g2
        refine ⟨fun h => by have := hi0 h; omega, fun _ => ⟨fun h => by have := hi0 h; omega, fun _ => ⟨(f.getD (i - 1) Fx.nil, f.getD i Fx.nil), fun _ => ⟨by simp, trivial⟩, ⟨_, fun _ => rfl⟩, ?_⟩⟩⟩
        intro b3 g3
        have hok : okF (f.getD i Fx.nil) = (nameB (f.getD i Fx.nil).name && dayB (f.getD i Fx.nil).date && decide (errR (f.getD i Fx.nil).value = 0)) := rfl
        simp only at g3
        generalize nameB (f.getD i Fx.nil).name = p1 at *
        generalize dayB (f.getD i Fx.nil).date = p2 at *
        generalize errR (f.getD i Fx.nil).value = p3 at *
        have key : (bif bif !p1 then true else !b1 then true else !decide (b2 = 0)) = !okF (f.getD i Fx.nil) := by
          rw [hok]
          cases p1 with
          | false => rfl
          | true =>
            have g1 := g1 rfl
            subst g1
            cases b1 with
            | false => rfl
            | true => have g2 := g2 rfl; subst g2; rfl
        rw [key] at g3 ⊢
        refine ⟨fun h => ?_, fun h => ⟨by omega, fun _ => ?_⟩⟩
        · refine RetR.scal (hq 8 (errE_8 hbig ?_).symm) rfl (by simp [resV])
          cases hk : okF (f.getD i Fx.nil) with
          | false =>
            have := all_not hlt hk
            rw [this]; simp
          | true =>
            rw [hk] at h g3
            simp only [Bool.not_true, cond_false] at h
            cases h0 : decide (0 < (i : Int)) with
            | false => rw [h0] at h; cases h
            | true =>
              rw [h0] at h
              have hi1 : 0 < i := by have := of_decide_eq_true h0; omega
              have g3 := g3 ⟨rfl, h0⟩
              rw [g3] at h
              simp only [cond_true, Bool.not_eq_true', decide_eq_false_iff_not] at h
              have e2 : i - 1 + 1 = i := by omega
              have := ordB_not (l := f) (c := cmpF) (z := Fx.nil) (j := i - 1) (by omega) (by rw [e2]; exact h)
              rw [this]; simp
        · have hk : okF (f.getD i Fx.nil) = true := by
            cases hk : okF (f.getD i Fx.nil) with
            | true => rfl
            | false => rw [hk] at h; cases h
          rw [hk] at h g3
          rw [if_pos trivial]
          refine ⟨⟨i + 1, hlt, fun j hj => ?_, fun j hj => ?_⟩, by show f.length - (i + 1) < f.length - i; omega, by simp [SCE1], by simp [HE, fxS, chS, eqG_refl], by kernel_rfl, Nat.zero_le _⟩
          · rcases Nat.lt_or_ge j i with h1 | h1
            · exact hib j h1
            · have : j = i := by omega
              rw [this]; exact hk
          · rcases Nat.lt_or_ge (j + 1) i with h1 | h1
            · exact hio j h1
            · have e2 : j + 1 = i := by omega
              have e3 : j = i - 1 := by omega
              have h0 : decide (0 < (i : Int)) = true := decide_eq_true (by omega)
              have g3 := g3 ⟨rfl, h0⟩
              simp only [Bool.not_true, cond_false, h0, cond_true] at h
              rw [e2, e3]
              exact of_decide_eq_true (by rw [← g3]; simpa using h)
      · have hge : i = f.length := by have := of_decide_eq_false hge; omega
        subst hge
        exact checkEr_loop2 f c hbig h4 (all_of hib) (ordB_all hio) hq _ _ ⟨by simp [SCE2], by simp [HE, fxS, chS, eqG_refl], by kernel_rfl, Nat.zero_le _⟩

def findC : Ctr := ctrP true (fun p : (List Fx × List Ch) × (List UInt8 × Int) => [envA p.1.1 p.1.2, .str p.2.1, .int .i64 p.2.2]) (fun p => p.1.1.length < 2 ^ 40) (fun p r => r = findR p.1.1 p.2.1 p.2.2) (fun _ r => (.tup [.str r.1, .bool r.2], []))
def chosenC : Ctr := ctrP true (fun p : (List Fx × List Ch) × (List UInt8 × List UInt8 × Int) => [envA p.1.1 p.1.2, .str p.2.1, .str p.2.2.1, .int .i64 p.2.2.2]) (fun p => p.1.2.length < 2 ^ 40) (fun p r => r = chosenR p.1.2 p.2.1 p.2.2.1 p.2.2.2) (fun _ r => (.bool r, []))
theorem rfind_ok : CtrOK Try.prog 11 findC := by
  refine fn_ctrP (fn := Try.f11) (c := Try.f11.body.getD .skip) rfl rfl rfl fun p hp O w0 Q hq => ?_
  obtain ⟨⟨f, c⟩, ⟨a, d⟩⟩ := p
  replace hq := hq _ rfl
  simp only at hq hp
  refine SafeK.run (k := K11) hmix noG_ok [1, 2, 3, 8, 25, 26, 27, 28, 29, 30, 31, 32] 400 (T := Tree.leaf (Leaf2.loop (Prod.fst (lps K11 (0 : Nat))) (Prod.snd (lps K11 (0 : Nat))) [((1 : Nat), AV.str a), ((2 : Nat), AV.int IntKind.i64 d), ((3 : Nat), AV.ptr (0 : Nat) (0 : Nat)), ((8 : Nat), AV.int IntKind.i64 (0 : Int)), ((25 : Nat), AV.undef), ((26 : Nat), AV.undef), ((27 : Nat), AV.undef), ((28 : Nat), AV.undef), ((29 : Nat), AV.undef), ((30 : Nat), AV.undef), ((31 : Nat), AV.undef), ((32 : Nat), AV.undef)] [Blk.box [AV.sl (List.length f) (3 : Nat) (fxG f), AV.sl (List.length c) (4 : Nat) (chG c)]])) (by kernel_rfl) ?_
  simp only [Tree.holds, Leafs2]
  refine SafeK.loop (ι := {i : Nat // i ≤ f.length ∧ ∀ j, j < i → (decide ((f.getD j Fx.nil).name = a) && decide ((f.getD j Fx.nil).date = d)) = false}) (fun i => SFi a d i.1) (fun _ => HE f c) (fun i => f.length - i.1) ⟨0, Nat.zero_le _, fun j hj => by omega⟩ 0 ?_ ?_ (by kernel_rfl)
  · exact ⟨by simp [SFi], by simp [HE, fxS, chS, eqG_refl], by kernel_rfl, Nat.zero_le _⟩
  · rintro ⟨i, hil, hib⟩
    refine SafeK.run (k := inside K11 0) hmix noG_ok [1, 2, 3, 8, 25, 26, 27, 28, 29, 30, 31, 32] 400 (T := Tree.ite (decide ((↑i : Int) < (↑(List.length f) : Int))) (Tree.side ((0 : Int) ≤ (↑i : Int) ∧ (↑i : Int) < (↑(List.length f) : Int)) (Tree.side (decide (Fx.name (List.getD f (Int.toNat (↑i : Int)) Fx.nil) = a) = true → (0 : Int) ≤ (↑i : Int) ∧ (↑i : Int) < (↑(List.length f) : Int)) (Tree.ite (bif decide (Fx.name (List.getD f (Int.toNat (↑i : Int)) Fx.nil) = a) then decide (Fx.date (List.getD f (Int.toNat (↑i : Int)) Fx.nil) = d) else false) (Tree.side ((0 : Int) ≤ (↑i : Int) ∧ (↑i : Int) < (↑(List.length f) : Int)) (Tree.leaf (Leaf2.ret [AV.str (Fx.value (List.getD f (Int.toNat (↑i : Int)) Fx.nil)), AV.bool true] [Blk.box [AV.sl (List.length f) (3 : Nat) (fxG f), AV.sl (List.length c) (4 : Nat) (chG c)]]))) (Tree.side (inR IntKind.i64 ((↑i : Int) + (1 : Int))) (Tree.leaf (Leaf2.back (0 : Nat) [((1 : Nat), AV.str a), ((2 : Nat), AV.int IntKind.i64 d), ((3 : Nat), AV.ptr (0 : Nat) (0 : Nat)), ((8 : Nat), AV.int IntKind.i64 ((↑i : Int) + (1 : Int))), ((25 : Nat), AV.undef), ((26 : Nat), AV.undef), ((27 : Nat), AV.undef), ((28 : Nat), AV.undef), ((29 : Nat), AV.undef), ((30 : Nat), AV.undef), ((31 : Nat), AV.undef), ((32 : Nat), AV.undef)] [Blk.box [AV.sl (List.length f) (3 : Nat) (fxG f), AV.sl (List.length c) (4 : Nat) (chG c)]])))))) (Tree.leaf (Leaf2.ret [AV.str (Array.toList #[]), AV.bool false] [Blk.box [AV.sl (List.length f) (3 : Nat) (fxG f), AV.sl (List.length c) (4 : Nat) (chG c)]]))) (by kernel_rfl) ?_
    simp only [Tree.holds, Leafs2, inR, lo, hi, Int.toNat_natCast]
    refine ⟨fun hlt => ?_, fun hge => ?_⟩
    · have hlt : i < f.length := by have := of_decide_eq_true hlt; omega
      have key : (bif decide ((f.getD i Fx.nil).name = a) then decide ((f.getD i Fx.nil).date = d) else false) = (decide ((f.getD i Fx.nil).name = a) && decide ((f.getD i Fx.nil).date = d)) := by cases decide ((f.getD i Fx.nil).name = a) <;> rfl
      rw [key]
      refine ⟨by omega, fun _ => ⟨fun _ => by omega, fun _ => ⟨fun h => ⟨by omega, fun _ => ?_⟩, fun h => ⟨by omega, fun _ => ?_⟩⟩⟩⟩
      · have := find_at (p := fun x : Fx => decide (x.name = a) && decide (x.date = d)) hlt h hib
        have hr : findR f a d = ((f.getD i Fx.nil).value, true) := by unfold findR; rw [this]
        rw [hr] at hq
        exact RetR.scal hq rfl (by simp [resV])
      · rw [if_pos trivial]
        refine ⟨⟨i + 1, hlt, fun j hj => ?_⟩, by show f.length - (i + 1) < f.length - i; omega, by simp [SFi], by simp [HE, fxS, chS, eqG_refl], by kernel_rfl, Nat.zero_le _⟩
        rcases Nat.lt_or_ge j i with h1 | h1
        · exact hib j h1
        · have : j = i := by omega
          rw [this]; exact h
    · have hge : i = f.length := by have := of_decide_eq_false hge; omega
      subst hge
      have := find_no (p := fun x : Fx => decide (x.name = a) && decide (x.date = d)) hib
      have hr : findR f a d = ([], false) := by unfold findR; rw [this]
      rw [hr] at hq
      exact RetR.scal hq rfl (by simp [resV])
theorem rchosen_ok : CtrOK Try.prog 16 chosenC := by
  refine fn_ctrP (fn := Try.f16) (c := Try.f16.body.getD .skip) rfl rfl rfl fun p hp O w0 Q hq => ?_
  obtain ⟨⟨f, c⟩, ⟨a, b, d⟩⟩ := p
  replace hq := hq _ rfl
  simp only at hq hp
  refine SafeK.run (k := K16) hmix noG_ok [1, 2, 3, 4, 9, 28, 29, 30, 31, 34, 35, 36, 37] 400 (T := Tree.leaf (Leaf2.loop (Prod.fst (lps K16 (0 : Nat))) (Prod.snd (lps K16 (0 : Nat))) [((1 : Nat), AV.str a), ((2 : Nat), AV.str b), ((3 : Nat), AV.int IntKind.i64 d), ((4 : Nat), AV.ptr (0 : Nat) (0 : Nat)), ((9 : Nat), AV.int IntKind.i64 (0 : Int)), ((28 : Nat), AV.undef), ((29 : Nat), AV.undef), ((30 : Nat), AV.undef), ((31 : Nat), AV.undef), ((34 : Nat), AV.undef), ((35 : Nat), AV.undef), ((36 : Nat), AV.undef), ((37 : Nat), AV.undef)] [Blk.box [AV.sl (List.length f) (3 : Nat) (fxG f), AV.sl (List.length c) (4 : Nat) (chG c)]])) (by kernel_rfl) ?_
  simp only [Tree.holds, Leafs2]
  refine SafeK.loop (ι := {i : Nat // i ≤ c.length ∧ ∀ j, j < i → (decide ((c.getD j Ch.nil).party = a) && (decide ((c.getD j Ch.nil).name = b) && decide ((c.getD j Ch.nil).date = d))) = false}) (fun i => SCh a b d i.1) (fun _ => HE f c) (fun i => c.length - i.1) ⟨0, Nat.zero_le _, fun j hj => by omega⟩ 0 ?_ ?_ (by kernel_rfl)
  · exact ⟨by simp [SCh], by simp [HE, fxS, chS, eqG_refl], by kernel_rfl, Nat.zero_le _⟩
  · rintro ⟨i, hil, hib⟩
    refine SafeK.run (k := inside K16 0) hmix noG_ok [1, 2, 3, 4, 9, 28, 29, 30, 31, 34, 35, 36, 37] 400 (T := Tree.ite (decide ((↑i : Int) < (↑(List.length c) : Int))) (Tree.side ((0 : Int) ≤ (↑i : Int) ∧ (↑i : Int) < (↑(List.length c) : Int)) (Tree.ite (bif bif decide (Ch.party (List.getD c (Int.toNat (↑i : Int)) Ch.nil) = a) then decide (Ch.name (List.getD c (Int.toNat (↑i : Int)) Ch.nil) = b) else false then decide (Ch.date (List.getD c (Int.toNat (↑i : Int)) Ch.nil) = d) else false) (Tree.leaf (Leaf2.ret [AV.bool (Ch.first (List.getD c (Int.toNat (↑i : Int)) Ch.nil))] [Blk.box [AV.sl (List.length f) (3 : Nat) (fxG f), AV.sl (List.length c) (4 : Nat) (chG c)], Blk.box [AV.str (Ch.party (List.getD c (Int.toNat (↑i : Int)) Ch.nil)), AV.str (Ch.name (List.getD c (Int.toNat (↑i : Int)) Ch.nil)), AV.int IntKind.i64 (Ch.date (List.getD c (Int.toNat (↑i : Int)) Ch.nil)), AV.bool (Ch.first (List.getD c (Int.toNat (↑i : Int)) Ch.nil))]])) (Tree.side (inR IntKind.i64 ((↑i : Int) + (1 : Int))) (Tree.leaf (Leaf2.back (0 : Nat) [((1 : Nat), AV.str a), ((2 : Nat), AV.str b), ((3 : Nat), AV.int IntKind.i64 d), ((4 : Nat), AV.ptr (0 : Nat) (0 : Nat)), ((9 : Nat), AV.int IntKind.i64 ((↑i : Int) + (1 : Int))), ((28 : Nat), AV.undef), ((29 : Nat), AV.undef), ((30 : Nat), AV.undef), ((31 : Nat), AV.undef), ((34 : Nat), AV.undef), ((35 : Nat), AV.undef), ((36 : Nat), AV.undef), ((37 : Nat), AV.undef)] [Blk.box [AV.sl (List.length f) (3 : Nat) (fxG f), AV.sl (List.length c) (4 : Nat) (chG c)], Blk.box [AV.str (Ch.party (List.getD c (Int.toNat (↑i : Int)) Ch.nil)), AV.str (Ch.name (List.getD c (Int.toNat (↑i : Int)) Ch.nil)), AV.int IntKind.i64 (Ch.date (List.getD c (Int.toNat (↑i : Int)) Ch.nil)), AV.bool (Ch.first (List.getD c (Int.toNat (↑i : Int)) Ch.nil))]]))))) (Tree.leaf (Leaf2.ret [AV.bool false] [Blk.box [AV.sl (List.length f) (3 : Nat) (fxG f), AV.sl (List.length c) (4 : Nat) (chG c)]]))) (by kernel_rfl) ?_
    simp only [Tree.holds, Leafs2, inR, lo, hi, Int.toNat_natCast]
    refine ⟨fun hlt => ?_, fun hge => ?_⟩
    · have hlt : i < c.length := by have := of_decide_eq_true hlt; omega
      have key : (bif bif decide ((c.getD i Ch.nil).party = a) then decide ((c.getD i Ch.nil).name = b) else false then decide ((c.getD i Ch.nil).date = d) else false) = (decide ((c.getD i Ch.nil).party = a) && (decide ((c.getD i Ch.nil).name = b) && decide ((c.getD i Ch.nil).date = d))) := by
        cases decide ((c.getD i Ch.nil).party = a) <;> cases decide ((c.getD i Ch.nil).name = b) <;> rfl
      rw [key]
      refine ⟨by omega, fun _ => ⟨fun h => ?_, fun h => ⟨by omega, fun _ => ?_⟩⟩⟩
      · have := find_at (p := fun x : Ch => decide (x.party = a) && (decide (x.name = b) && decide (x.date = d))) hlt h hib
        have hr : chosenR c a b d = (c.getD i Ch.nil).first := by unfold chosenR; rw [this]
        rw [hr] at hq
        exact RetR.scal hq rfl (by simp [resV])
      · rw [if_pos trivial]
        refine ⟨⟨i + 1, hlt, fun j hj => ?_⟩, by show c.length - (i + 1) < c.length - i; omega, by simp [SCh], by simp [HE, fxS, chS, eqG_refl], by kernel_rfl, Nat.zero_le _⟩
        rcases Nat.lt_or_ge j i with h1 | h1
        · exact hib j h1
        · have : j = i := by omega
          rw [this]; exact h
    · have hge : i = c.length := by have := of_decide_eq_false hge; omega
      subst hge
      have := find_no (p := fun x : Ch => decide (x.party = a) && (decide (x.name = b) && decide (x.date = d))) hib
      have hr : chosenR c a b d = false := by unfold chosenR; rw [this]
      rw [hr] at hq
      exact RetR.scal hq rfl (by simp [resV])
end Go.Proofs.Try
end
