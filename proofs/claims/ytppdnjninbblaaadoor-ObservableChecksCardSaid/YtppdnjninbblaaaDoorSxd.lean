/- Part 4 of the proof. -/
import Derived.Test.YtppdnjninbblaaaDoorSxc
import Derived.Lib.Strings
import Derived.Lib.Slices
import Derived.Lib.Walk
import Derived.Lib.Bytealg
import Derived.Test.YtppdnjninbblaaaDoorProg
/- The reference's integers: texts. -/
section
set_option linter.unusedVariables false
set_option linter.unusedSimpArgs false
set_option maxRecDepth 100000
open Go Go.Sx Go.Proofs Go.Nov
namespace Go.Proofs.Tryd
attribute [local simp] eqKV eqA eqA0 eqH eqB eqL eqL0
noncomputable def K41 : List Go.Sx.Item := [.code (Tryd.f41.body.getD .skip)]
noncomputable def K43 : List Go.Sx.Item := [.code (Tryd.f43.body.getD .skip)]
noncomputable def K33 : List Go.Sx.Item := [.code (Tryd.f33.body.getD .skip)]

def zeroC : Ctr := ctrP true (fun l : List Nat => [nat6 l]) (fun l => Ten.dig l ∧ l.length < 2 ^ 62) (fun l r => r = decide (Ten.val l = 0)) (fun _ (r : Bool) => (.bool r, []))
def GR1 : Nat → Option Ctr := fun f => if f = 49 then some (greaterC) else none
theorem GR1_ok : ∀ g c, GR1 g = some c → CtrOK Tryd.prog g c := by
  intro g c h
  unfold GR1 at h
  by_cases hg : g = 49
  · subst hg
    rw [if_pos rfl] at h
    cases h
    exact greater_ok
  rw [if_neg hg] at h
  clear hg
  cases h

theorem zero_ok : CtrOK Tryd.prog 41 zeroC := by
  refine fn_ctrP (fn := Tryd.f41) (c := Tryd.f41.body.getD .skip) rfl rfl rfl fun l hp O w0 Q hq => ?_
  obtain ⟨hl, hll⟩ := hp
  replace hq := hq _ rfl
  refine SafeK.run (k := K41) hmix GR1_ok [] 400 (T := Tree.ex (fun (x : List Nat × List Nat) => eqL [AV.sl (List.length l) (1 : Nat) (natG IntKind.i64 l), AV.nils] [AV.sl (List.length (Prod.fst x)) (1 : Nat) (natG IntKind.i64 (Prod.fst x)), AV.sl (List.length (Prod.snd x)) (1 : Nat) (natG IntKind.i64 (Prod.snd x))] ∧ Ten.dig (Prod.fst x) ∧ Ten.dig (Prod.snd x) ∧ List.length (Prod.fst x) < (4611686018427387904 : Nat) ∧ List.length (Prod.snd x) < (4611686018427387904 : Nat)) fun (n : List Nat × List Nat) => Tree.all (fun (r : Int) => r = cmpN (Ten.val (Prod.fst n)) (Ten.val (Prod.snd n))) fun (n : Int) => Tree.leaf (Leaf2.ret [AV.bool (decide (n = (0 : Int)))] [])) (by kernel_rfl) ?_
  simp only [Tree.holds, Leafs2]
  refine ⟨(l, []), ⟨by simp [eqG_refl], hl, by simp [Ten.dig], hll, by simp⟩, ⟨_, rfl⟩, ?_⟩
  rintro _ rfl
  have : decide (cmpN (Ten.val l) (Ten.val []) = 0) = decide (Ten.val l = 0) := by
    have e : Ten.val [] = 0 := rfl
    rw [e]
    by_cases h : Ten.val l = 0
    · rw [h]; rfl
    · have : cmpN (Ten.val l) 0 = 1 := by unfold cmpN; rw [if_neg (by omega), if_pos (by omega)]
      rw [this, decide_eq_false h]; rfl
  rw [← this] at hq
  exact RetR.scal hq rfl (by simp [resV])
def rtextC : Ctr := ctrP true (fun p : List Nat × Bool => [nat6 p.1, .bool p.2]) (fun p => Ten.dig p.1 ∧ p.1.length < 2 ^ 40) (fun p r => r = textR p.2 (Ten.val p.1)) (fun _ r => (.str r, []))
def STx (l : List Nat) (neg : Bool) (n : Nat) : KV := [(0, nat6 l), (1, .bool neg), (5, .int .i64 (n : Int)), (6, .undef), (7, .undef), (13, .undef), (14, .undef), (15, .undef), (16, .undef), (17, .undef), (18, .undef)]
def STy (l : List Nat) (neg : Bool) (n i : Nat) (b : List Nat) : KV := [(0, nat6 l), (1, .bool neg), (5, .int .i64 (n : Int)), (6, .osl 1 1 0 b.length), (7, .int .i64 ((i : Int) - 1)), (13, .undef), (14, .undef), (15, .undef), (16, .undef), (17, .undef), (18, .undef)]

theorem text_loop {O : Nat → Prop} {w0 : World} {Q : AV × Heap → Prop} {Hs : Nat → KV → Heap → Prop} (l : List Nat) (neg : Bool) (n : Nat) (hl : Ten.dig l) (hll : l.length < 2 ^ 40) (hn : n ≤ l.length) (ht : n = Ten.tlen l) (h0 : 0 < n) (hq : Q (.str (textR neg (Ten.val l)), [])) (kv : KV) (h : Heap)
    (hle : LeK 0 Tryd.f43.ntmps kv h (STy l neg n n (tbL l neg n n)) [.dead, .arr (tbL l neg n n).length 1 (natG .u8 (tbL l neg n n))]) :
    SafeK Tryd.prog Tryd.f43 O 0 w0 [] Hs (RetR rtextC 0 Q) (.code (.loop (lps (inside K43 0) 0).1) :: (lps (inside K43 0) 0).2) (mk Tryd.f43.ntmps kv h) := by
  refine SafeK.loop (ι := {i : Nat // i ≤ n}) (fun i => STy l neg n i.1 (tbL l neg n i.1)) (fun i => [.dead, .arr (tbL l neg n i.1).length 1 (natG .u8 (tbL l neg n i.1))]) (fun i => i.1) ⟨n, Nat.le_refl _⟩ 0 hle ?_ (by kernel_rfl)
  rintro ⟨i, hin⟩
  obtain ⟨b, hb⟩ : ∃ b, tbL l neg n i = b := ⟨_, rfl⟩
  have hbl := tbL_len l neg n i
  simp only [hb] at hbl ⊢
  refine SafeK.run (k := inside (inside K43 0) 0) hmix noG_ok [0, 1, 5, 6, 7, 13, 14, 15, 16, 17, 18] 400 (T := Tree.ite (decide ((0 : Int) ≤ (↑i : Int) - (1 : Int))) (Tree.side ((0 : Int) ≤ (↑i : Int) - (1 : Int) ∧ (↑i : Int) - (1 : Int) < (↑(List.length l) : Int)) (Tree.side (inR IntKind.i64 ((48 : Int) + (↑(List.getD l (Int.toNat ((↑i : Int) - (1 : Int))) (0 : Nat)) : Int))) (Tree.side (inR IntKind.u8 ((48 : Int) + (↑(List.getD l (Int.toNat ((↑i : Int) - (1 : Int))) (0 : Nat)) : Int))) (Tree.side ((0 : Nat) = (0 : Nat) ∧ List.length b ≤ List.length b ∧ (List.length b + (1 : Nat)) * (1 : Nat) ≤ (140737488355328 : Nat)) (Tree.side (inR IntKind.i64 ((↑i : Int) - (1 : Int) - (1 : Int))) (Tree.leaf (Leaf2.back (0 : Nat) [((0 : Nat), AV.sl (List.length l) (1 : Nat) (natG IntKind.i64 l)), ((1 : Nat), AV.bool neg), ((5 : Nat), AV.int IntKind.i64 (↑n : Int)), ((6 : Nat), AV.osl (1 : Nat) (1 : Nat) (0 : Nat) (List.length b + (1 : Nat))), ((7 : Nat), AV.int IntKind.i64 ((↑i : Int) - (1 : Int) - (1 : Int))), ((13 : Nat), AV.undef), ((14 : Nat), AV.undef), ((15 : Nat), AV.undef), ((16 : Nat), AV.undef), ((17 : Nat), AV.undef), ((18 : Nat), AV.undef)] [Blk.dead, Blk.arr (List.length b + (1 : Nat)) (1 : Nat) (appG (List.length b) (natG IntKind.u8 b) (viewG (listG (1 : Nat) [AV.int IntKind.u8 ((48 : Int) + (↑(List.getD l (Int.toNat ((↑i : Int) - (1 : Int))) (0 : Nat)) : Int))]) (0 : Nat))), Blk.arr (1 : Nat) (1 : Nat) (listG (1 : Nat) [AV.int IntKind.u8 ((48 : Int) + (↑(List.getD l (Int.toNat ((↑i : Int) - (1 : Int))) (0 : Nat)) : Int))])]))))))) (Tree.side (∀ (j : Nat), j < List.length b → ∃ (b_1 : UInt8), AV.int IntKind.u8 (↑(List.getD b ((0 : Nat) + j) (0 : Nat)) : Int) = AV.int IntKind.u8 (↑(UInt8.toNat b_1) : Int)) (Tree.leaf (Leaf2.ret [AV.str (bytesG (List.length b) (viewG (natG IntKind.u8 b) (0 : Nat)))] [Blk.dead, Blk.arr (List.length b) (1 : Nat) (natG IntKind.u8 b)])))) (by kernel_rfl) ?_
  simp only [Tree.holds, Leafs2, inR, lo, hi, Int.toNat_natCast]
  refine ⟨fun hge => ?_, fun hlt => ?_⟩
  · have hi0 : 0 < i := by have := of_decide_eq_true hge; omega
    have e : ((i : Int) - 1).toNat = i - 1 := by omega
    have hd : l.getD (i - 1) 0 < 10 := Ten.getD_lt hl (i - 1)
    have hst := tbL_step (l := l) (neg := neg) hi0 hin hn
    rw [hb] at hst
    rw [e]
    obtain ⟨x, hx⟩ : ∃ x, l.getD (i - 1) 0 = x := ⟨_, rfl⟩
    simp only [hx] at hd hst ⊢
    iterate 3 refine ⟨by omega, fun _ => ?_⟩
    refine ⟨⟨trivial, Nat.le_refl _, by omega⟩, fun _ => ⟨by omega, fun _ => ?_⟩⟩
    rw [if_pos trivial]
    refine ⟨⟨i - 1, by omega⟩, by show i - 1 < i; omega, ?_, ?_, by kernel_rfl, Nat.zero_le _⟩
    · simp only [← hst]
      simp [STy, natS, eqG_refl]; omega
    · simp only [← hst]
      exact ⟨trivial, heap_push (d := 48 + x) (by omega)⟩
  · have hi0 : i = 0 := by have := of_decide_eq_false hlt; omega
    subst hi0
    refine ⟨fun j hj => ⟨UInt8.ofNat (b.getD (0 + j) 0), ?_⟩, fun _ => ?_⟩
    · have := tbL_lt hl neg n 0 (0 + j)
      rw [hb] at this
      have e2 : (UInt8.ofNat (b.getD (0 + j) 0)).toNat = b.getD (0 + j) 0 := by rw [UInt8.toNat_ofNat']; exact Nat.mod_eq_of_lt this
      rw [e2]
    · rw [bytesG_nat _ _ _ (Nat.le_refl _), List.take_length, ← hb, text_final hl ht h0]
      exact RetR.scal hq rfl (by simp [resV])
theorem rtext_ok : CtrOK Tryd.prog 43 rtextC := by
  refine fn_ctrP (fn := Tryd.f43) (c := Tryd.f43.body.getD .skip) rfl rfl rfl fun p hp O w0 Q hq => ?_
  obtain ⟨l, neg⟩ := p
  obtain ⟨hl, hll⟩ := hp
  replace hq := hq _ rfl
  simp only at hq hl hll
  refine SafeK.run (k := K43) hmix noG_ok [0, 1, 5, 6, 7, 13, 14, 15, 16, 17, 18] 400 (T := Tree.leaf (Leaf2.loop (Prod.fst (lps K43 (0 : Nat))) (Prod.snd (lps K43 (0 : Nat))) [((0 : Nat), AV.sl (List.length l) (1 : Nat) (natG IntKind.i64 l)), ((1 : Nat), AV.bool neg), ((5 : Nat), AV.int IntKind.i64 (↑(List.length l) : Int)), ((6 : Nat), AV.undef), ((7 : Nat), AV.undef), ((13 : Nat), AV.undef), ((14 : Nat), AV.undef), ((15 : Nat), AV.undef), ((16 : Nat), AV.undef), ((17 : Nat), AV.undef), ((18 : Nat), AV.undef)] [])) (by kernel_rfl) ?_
  simp only [Tree.holds, Leafs2]
  refine SafeK.loop (ι := {n : Nat // n ≤ l.length ∧ Ten.tlen l ≤ n}) (fun n => STx l neg n.1) (fun _ => []) (fun n => n.1) ⟨l.length, Nat.le_refl _, Ten.tlen_le l⟩ 0 ?_ ?_ (by kernel_rfl)
  · exact ⟨by simp [STx, natS, eqG_refl], by simp, by kernel_rfl, Nat.zero_le _⟩
  · rintro ⟨n, hn, ht⟩
    refine SafeK.run (k := inside K43 0) hmix noG_ok [0, 1, 5, 6, 7, 13, 14, 15, 16, 17, 18] 400 (T := Tree.side (decide ((0 : Int) < (↑n : Int)) = true → inR IntKind.i64 ((↑n : Int) - (1 : Int))) (Tree.side (decide ((0 : Int) < (↑n : Int)) = true → (0 : Int) ≤ (↑n : Int) - (1 : Int) ∧ (↑n : Int) - (1 : Int) < (↑(List.length l) : Int)) (Tree.ite (bif decide ((0 : Int) < (↑n : Int)) then decide ((↑(List.getD l (Int.toNat ((↑n : Int) - (1 : Int))) (0 : Nat)) : Int) = (0 : Int)) else false) (Tree.side (inR IntKind.i64 ((↑n : Int) - (1 : Int))) (Tree.leaf (Leaf2.back (0 : Nat) [((0 : Nat), AV.sl (List.length l) (1 : Nat) (natG IntKind.i64 l)), ((1 : Nat), AV.bool neg), ((5 : Nat), AV.int IntKind.i64 ((↑n : Int) - (1 : Int))), ((6 : Nat), AV.undef), ((7 : Nat), AV.undef), ((13 : Nat), AV.undef), ((14 : Nat), AV.undef), ((15 : Nat), AV.undef), ((16 : Nat), AV.undef), ((17 : Nat), AV.undef), ((18 : Nat), AV.undef)] []))) (Tree.ite (decide ((↑n : Int) = (0 : Int))) (Tree.leaf (Leaf2.ret [AV.str (Array.toList #[(48 : UInt8)])] [])) (Tree.ite neg (Tree.side ((1 : Nat) ≤ (140737488355328 : Nat)) (Tree.side (inR IntKind.i64 ((↑n : Int) - (1 : Int))) (Tree.leaf (Leaf2.loop (Prod.fst (lps (inside K43 (0 : Nat)) (0 : Nat))) (Prod.snd (lps (inside K43 (0 : Nat)) (0 : Nat))) [((0 : Nat), AV.sl (List.length l) (1 : Nat) (natG IntKind.i64 l)), ((1 : Nat), AV.bool neg), ((5 : Nat), AV.int IntKind.i64 (↑n : Int)), ((6 : Nat), AV.osl (1 : Nat) (1 : Nat) (0 : Nat) (1 : Nat)), ((7 : Nat), AV.int IntKind.i64 ((↑n : Int) - (1 : Int))), ((13 : Nat), AV.undef), ((14 : Nat), AV.undef), ((15 : Nat), AV.undef), ((16 : Nat), AV.undef), ((17 : Nat), AV.undef), ((18 : Nat), AV.undef)] [Blk.arr (1 : Nat) (1 : Nat) (listG (1 : Nat) [AV.int IntKind.u8 (45 : Int)]), Blk.arr (1 : Nat) (1 : Nat) (viewG (listG (1 : Nat) [AV.int IntKind.u8 (45 : Int)]) (0 : Nat))])))) (Tree.side (inR IntKind.i64 ((↑n : Int) - (1 : Int))) (Tree.leaf (Leaf2.loop (Prod.fst (lps (inside K43 (0 : Nat)) (0 : Nat))) (Prod.snd (lps (inside K43 (0 : Nat)) (0 : Nat))) [((0 : Nat), AV.sl (List.length l) (1 : Nat) (natG IntKind.i64 l)), ((1 : Nat), AV.bool neg), ((5 : Nat), AV.int IntKind.i64 (↑n : Int)), ((6 : Nat), AV.nils), ((7 : Nat), AV.int IntKind.i64 ((↑n : Int) - (1 : Int))), ((13 : Nat), AV.undef), ((14 : Nat), AV.undef), ((15 : Nat), AV.undef), ((16 : Nat), AV.undef), ((17 : Nat), AV.undef), ((18 : Nat), AV.undef)] [])))))))) (by kernel_rfl) ?_
    simp only [Tree.holds, Leafs2, inR, lo, hi, Int.toNat_natCast]
    refine ⟨by omega, fun _ => ⟨fun h => by have := of_decide_eq_true h; omega, fun _ => ⟨fun hz => ?_, fun hz => ?_⟩⟩⟩
    · have hn0 : 0 < n := by
        rcases Nat.eq_zero_or_pos n with h | h
        · subst h; simp at hz
        · exact h
      have e : ((n : Int) - 1).toNat = n - 1 := by omega
      have hz : l.getD (n - 1) 0 = 0 := by
        rw [decide_eq_true (by omega), e] at hz
        have := of_decide_eq_true hz
        omega
      refine ⟨by omega, fun _ => ?_⟩
      rw [if_pos trivial]
      refine ⟨⟨n - 1, by omega, ?_⟩, by show n - 1 < n; omega, by simp [STx, natS, eqG_refl]; omega, by simp, by kernel_rfl, Nat.zero_le _⟩
      refine Nat.le_of_not_lt fun hlt => ?_
      have hnt : n = Ten.tlen l := by omega
      subst hnt
      exact Ten.tlen_last l hn0 hz
    · have e : ((n : Int) - 1).toNat = n - 1 := by omega
      have hnt : n = Ten.tlen l := by
        rcases Nat.eq_zero_or_pos n with h | h
        · omega
        · refine Nat.le_antisymm (Nat.le_of_not_lt fun hlt => ?_) ht
          have := Ten.tlen_zero l (n - 1) (by omega)
          rw [decide_eq_true (by omega), e, this] at hz
          simp at hz
      refine ⟨fun h0 => ?_, fun h0 => ?_⟩
      · have h0 : n = 0 := by have := of_decide_eq_true h0; omega
        rw [text_zero (by omega)] at hq
        exact RetR.scal hq rfl (by simp [resV])
      · have h0 : 0 < n := by have := of_decide_eq_false h0; omega
        refine ⟨fun hneg => ⟨by omega, fun _ => ⟨by omega, fun _ => ?_⟩⟩, fun hneg => ⟨by omega, fun _ => ?_⟩⟩
        · subst hneg
          refine text_loop l true n hl hll hn hnt h0 hq _ _ ⟨?_, ?_, by kernel_rfl, Nat.zero_le _⟩
          · simp [STy, natS, eqG_refl, tbL_top]
          · simp only [tbL_top, if_true, List.length_singleton]
            refine ⟨trivial, ⟨rfl, rfl, ?_⟩, trivial⟩
            intro j o hj ho
            simpa [viewG] using eqG_one .u8 45 j o hj ho
        · subst hneg
          refine SafeK.void (by kernel_rfl) ?_
          refine SafeK.bear 6 1 (natG .u8 []) rfl (by decide) (by kernel_rfl) ?_
          refine text_loop l false n hl hll hn hnt h0 hq _ _ ⟨?_, ?_, by kernel_rfl, Nat.zero_le _⟩
          · simp [STy, natS, eqG_refl, tbL_top, setKV]
          · simp [tbL_top, eqG_refl]
def digitsC : Ctr := ctrP true (fun s : List UInt8 => [.str s]) (fun s => s.length < 2 ^ 40) (fun s r => r = digR s) (fun _ r => (.tup [nat6 r.1, .bool r.2.1, .bool r.2.2], []))
def SDi (b : List UInt8) (neg : Bool) (i : Nat) (o : List Nat) : KV := [(5, .str b), (6, .bool neg), (7, .osl 0 1 0 o.length), (8, .int .i64 ((i : Int) - 1)), (49, .undef), (50, .undef), (51, .undef), (52, .undef)]
theorem digits_loop {O : Nat → Prop} {w0 : World} {Q : AV × Heap → Prop} {Hs : Nat → KV → Heap → Prop} (b : List UInt8) (neg : Bool) (hbl : b.length < 2 ^ 40) (hb0 : b ≠ []) (hf : b.all isD = true → formB neg b = true)
    (hq : Q (.tup [nat6 (if formB neg b then (dg b, neg, true) else ([], false, false)).1, .bool (if formB neg b then (dg b, neg, true) else ([], false, false)).2.1, .bool (if formB neg b then (dg b, neg, true) else ([], false, false)).2.2], [])) :
    SafeK Tryd.prog Tryd.f33 O 0 w0 [] Hs (RetR digitsC 0 Q) (.code (.loop (lps K33 0).1) :: (lps K33 0).2) (mk Tryd.f33.ntmps [(5, .str b), (6, .bool neg), (7, .nils), (8, .int .i64 ((b.length : Int) - 1)), (49, .undef), (50, .undef), (51, .undef), (52, .undef)] []) := by
  refine SafeK.bear 7 1 (natG .i64 []) rfl (by decide) (by kernel_rfl) ?_
  refine SafeK.loop (ι := {i : Nat // i ≤ b.length ∧ ∀ j, i ≤ j → j < b.length → isD (b.getD j 0) = true}) (fun i => SDi b neg i.1 (dg (b.drop i.1))) (fun i => [.arr (dg (b.drop i.1)).length 1 (natG .i64 (dg (b.drop i.1)))]) (fun i => i.1) ⟨b.length, Nat.le_refl _, fun j h1 h2 => by omega⟩ 0 ?_ ?_ (by kernel_rfl)
  · exact ⟨by simp [SDi, setKV, dg], by simp [dg, eqG_refl], by kernel_rfl, Nat.zero_le _⟩
  · rintro ⟨i, hil, hid⟩
    have hdl : (dg (b.drop i)).length = b.length - i := by rw [dg_len, List.length_drop]
    obtain ⟨o, ho⟩ : ∃ o, dg (b.drop i) = o := ⟨_, rfl⟩
    simp only [ho] at hdl ⊢
    refine SafeK.run (k := inside K33 0) hmix noG_ok [5, 6, 7, 8, 49, 50, 51, 52] 400 (T := Tree.ite (decide ((0 : Int) ≤ (↑i : Int) - (1 : Int))) (Tree.side ((0 : Int) ≤ (↑i : Int) - (1 : Int) ∧ (↑i : Int) - (1 : Int) < (↑(List.length b) : Int)) (Tree.side (decide ((↑(UInt8.toNat (List.getD b (Int.toNat ((↑i : Int) - (1 : Int))) (0 : UInt8))) : Int) < (48 : Int)) = false → (0 : Int) ≤ (↑i : Int) - (1 : Int) ∧ (↑i : Int) - (1 : Int) < (↑(List.length b) : Int)) (Tree.ite (bif decide ((↑(UInt8.toNat (List.getD b (Int.toNat ((↑i : Int) - (1 : Int))) (0 : UInt8))) : Int) < (48 : Int)) then true else decide ((57 : Int) < (↑(UInt8.toNat (List.getD b (Int.toNat ((↑i : Int) - (1 : Int))) (0 : UInt8))) : Int))) (Tree.leaf (Leaf2.ret [AV.nils, AV.bool false, AV.bool false] [Blk.arr (List.length o) (1 : Nat) (natG IntKind.i64 o)])) (Tree.side ((0 : Int) ≤ (↑i : Int) - (1 : Int) ∧ (↑i : Int) - (1 : Int) < (↑(List.length b) : Int)) (Tree.side (inR IntKind.u8 ((↑(UInt8.toNat (List.getD b (Int.toNat ((↑i : Int) - (1 : Int))) (0 : UInt8))) : Int) - (48 : Int))) (Tree.side (inR IntKind.i64 ((↑(UInt8.toNat (List.getD b (Int.toNat ((↑i : Int) - (1 : Int))) (0 : UInt8))) : Int) - (48 : Int))) (Tree.side ((0 : Nat) = (0 : Nat) ∧ List.length o ≤ List.length o ∧ (List.length o + (1 : Nat)) * (8 : Nat) ≤ (140737488355328 : Nat)) (Tree.side (inR IntKind.i64 ((↑i : Int) - (1 : Int) - (1 : Int))) (Tree.leaf (Leaf2.back (0 : Nat) [((5 : Nat), AV.str b), ((6 : Nat), AV.bool neg), ((7 : Nat), AV.osl (0 : Nat) (1 : Nat) (0 : Nat) (List.length o + (1 : Nat))), ((8 : Nat), AV.int IntKind.i64 ((↑i : Int) - (1 : Int) - (1 : Int))), ((49 : Nat), AV.undef), ((50 : Nat), AV.undef), ((51 : Nat), AV.undef), ((52 : Nat), AV.undef)] [Blk.arr (List.length o + (1 : Nat)) (1 : Nat) (appG (List.length o) (natG IntKind.i64 o) (viewG (listG (1 : Nat) [AV.int IntKind.i64 ((↑(UInt8.toNat (List.getD b (Int.toNat ((↑i : Int) - (1 : Int))) (0 : UInt8))) : Int) - (48 : Int))]) (0 : Nat))), Blk.arr (1 : Nat) (1 : Nat) (listG (1 : Nat) [AV.int IntKind.i64 ((↑(UInt8.toNat (List.getD b (Int.toNat ((↑i : Int) - (1 : Int))) (0 : UInt8))) : Int) - (48 : Int))])])))))))))) (Tree.leaf (Leaf2.ret [AV.osl (0 : Nat) (1 : Nat) (0 : Nat) (List.length o), AV.bool neg, AV.bool true] [Blk.arr (List.length o) (1 : Nat) (natG IntKind.i64 o)]))) (by kernel_rfl) ?_
    simp only [Tree.holds, Leafs2, inR, lo, hi, Int.toNat_natCast, Bool.cond_eq_ite]
    refine ⟨fun hge => ?_, fun hlt => ?_⟩
    · have hi0 : 0 < i := by have := of_decide_eq_true hge; omega
      have e : ((i : Int) - 1).toNat = i - 1 := by omega
      have hst := dg_step hi0 hil
      rw [ho] at hst
      simp only [e]
      refine ⟨by omega, fun _ => ⟨fun _ => by omega, fun _ => ⟨fun hbad => ?_, fun hgood => ⟨by omega, fun _ => ?_⟩⟩⟩⟩
      · rw [dig_test] at hbad
        have hnf : formB neg b = false := by
          have : b.all isD = false := by
            rw [List.all_eq_false]
            have hib : i - 1 < b.length := by omega
            refine ⟨b.getD (i - 1) 0, by simp [List.getD, hib], by simpa using hbad⟩
          simp [formB, this]
        rw [hnf] at hq
        refine RetR.out0 hq (fun _ => ?_) ?_
        · simp [resV, new2, new1, new0, scalA]
        · simp [resV, exp2, exp1, exp0, ren0, eqA2, eqL1, eqA, eqA0, natS]
      · rw [dig_test] at hgood
        have hd : isD (b.getD (i - 1) 0) = true := by simpa using hgood
        have hc : 48 ≤ (b.getD (i - 1) 0).toNat ∧ (b.getD (i - 1) 0).toNat ≤ 57 := by simpa [isD] using hd
        obtain ⟨c, hcc⟩ : ∃ c, (b.getD (i - 1) 0).toNat = c := ⟨_, rfl⟩
        simp only [hcc] at hc hst ⊢
        iterate 2 refine ⟨by omega, fun _ => ?_⟩
        refine ⟨⟨trivial, Nat.le_refl _, by omega⟩, fun _ => ⟨by omega, fun _ => ?_⟩⟩
        rw [if_pos trivial]
        refine ⟨⟨i - 1, by omega, fun j h1 h2 => ?_⟩, by show i - 1 < i; omega, ?_, ?_, by kernel_rfl, Nat.zero_le _⟩
        · rcases Nat.lt_or_ge j i with h | h
          · have : j = i - 1 := by omega
            subst this; exact hd
          · exact hid j h h2
        · simp only [← hst]
          simp [SDi]; omega
        · simp only [← hst]
          exact heap_push (d := c - 48) (by omega)
    · have hi0 : i = 0 := by have := of_decide_eq_false hlt; omega
      subst hi0
      have hall : b.all isD = true := by
        rw [List.all_eq_true]
        intro c hc
        obtain ⟨j, hj, rfl⟩ := List.getElem_of_mem hc
        have := hid j (Nat.zero_le _) hj
        simpa [List.getD, hj] using this
      rw [hf hall] at hq
      have ho : dg b = o := ho
      simp only [if_true, ho] at hq
      have hb : ([.arr o.length 1 (natG .i64 o)] : Heap)[0]? = some (.arr o.length 1 (natG .i64 o)) := rfl
      refine RetR.out0 hq (fun _ => ?_) ?_
      · simp only [resV, new2, List.mem_cons, List.not_mem_nil, or_false, forall_eq_or_imp, forall_eq]
        exact ⟨new0_own hb (by omega) fun j o _ _ => scal_nat _ _ _ _ _, rfl, rfl⟩
      · simp only [resV, exp2, List.map_cons, List.map_nil, exp1]
        rw [exp0_own hb (by omega), view0]
        simp [eqA2, eqL1, eqA, eqA0, natS, eqG_refl, exp0, ren0]
theorem digits_ok : CtrOK Tryd.prog 33 digitsC := by
  refine fn_ctrP (fn := Tryd.f33) (c := Tryd.f33.body.getD .skip) rfl rfl rfl fun s hs O w0 Q hq => ?_
  replace hq := hq _ rfl
  refine SafeK.run (k := K33) hmix noG_ok [5, 6, 7, 8, 49, 50, 51, 52] 400 (T := Tree.side (decide ((0 : Int) < (↑(List.length s) : Int)) = true → (0 : Int) ≤ (0 : Int) ∧ (0 : Int) < (↑(List.length s) : Int)) (Tree.ite (bif decide ((0 : Int) < (↑(List.length s) : Int)) then decide ((↑(UInt8.toNat (List.getD s (0 : Nat) (0 : UInt8))) : Int) = (45 : Int)) else false) (Tree.side ((0 : Int) ≤ (1 : Int) ∧ (1 : Int) ≤ (↑(List.length s) : Int)) (Tree.side (decide ((↑(List.length (List.drop (1 : Nat) (List.take (List.length s) s))) : Int) = (0 : Int)) = false → (0 : Int) ≤ (0 : Int) ∧ (0 : Int) < (↑(List.length (List.drop (1 : Nat) (List.take (List.length s) s))) : Int)) (Tree.ite (bif decide ((↑(List.length (List.drop (1 : Nat) (List.take (List.length s) s))) : Int) = (0 : Int)) then true else bif decide ((↑(UInt8.toNat (List.getD (List.drop (1 : Nat) (List.take (List.length s) s)) (0 : Nat) (0 : UInt8))) : Int) = (48 : Int)) then bif decide ((1 : Int) < (↑(List.length (List.drop (1 : Nat) (List.take (List.length s) s))) : Int)) then true else bif decide ((0 : Int) < (↑(List.length s) : Int)) then decide ((↑(UInt8.toNat (List.getD s (0 : Nat) (0 : UInt8))) : Int) = (45 : Int)) else false else false) (Tree.leaf (Leaf2.ret [AV.nils, AV.bool false, AV.bool false] [])) (Tree.side (inR IntKind.i64 ((↑(List.length (List.drop (1 : Nat) (List.take (List.length s) s))) : Int) - (1 : Int))) (Tree.leaf (Leaf2.loop (Prod.fst (lps K33 (0 : Nat))) (Prod.snd (lps K33 (0 : Nat))) [((5 : Nat), AV.str (List.drop (1 : Nat) (List.take (List.length s) s))), ((6 : Nat), AV.bool (bif decide ((0 : Int) < (↑(List.length s) : Int)) then decide ((↑(UInt8.toNat (List.getD s (0 : Nat) (0 : UInt8))) : Int) = (45 : Int)) else false)), ((7 : Nat), AV.nils), ((8 : Nat), AV.int IntKind.i64 ((↑(List.length (List.drop (1 : Nat) (List.take (List.length s) s))) : Int) - (1 : Int))), ((49 : Nat), AV.undef), ((50 : Nat), AV.undef), ((51 : Nat), AV.undef), ((52 : Nat), AV.undef)] [])))))) (Tree.side (decide ((↑(List.length s) : Int) = (0 : Int)) = false → (0 : Int) ≤ (0 : Int) ∧ (0 : Int) < (↑(List.length s) : Int)) (Tree.ite (bif decide ((↑(List.length s) : Int) = (0 : Int)) then true else bif decide ((↑(UInt8.toNat (List.getD s (0 : Nat) (0 : UInt8))) : Int) = (48 : Int)) then bif decide ((1 : Int) < (↑(List.length s) : Int)) then true else bif decide ((0 : Int) < (↑(List.length s) : Int)) then decide ((↑(UInt8.toNat (List.getD s (0 : Nat) (0 : UInt8))) : Int) = (45 : Int)) else false else false) (Tree.leaf (Leaf2.ret [AV.nils, AV.bool false, AV.bool false] [])) (Tree.side (inR IntKind.i64 ((↑(List.length s) : Int) - (1 : Int))) (Tree.leaf (Leaf2.loop (Prod.fst (lps K33 (0 : Nat))) (Prod.snd (lps K33 (0 : Nat))) [((5 : Nat), AV.str s), ((6 : Nat), AV.bool (bif decide ((0 : Int) < (↑(List.length s) : Int)) then decide ((↑(UInt8.toNat (List.getD s (0 : Nat) (0 : UInt8))) : Int) = (45 : Int)) else false)), ((7 : Nat), AV.nils), ((8 : Nat), AV.int IntKind.i64 ((↑(List.length s) : Int) - (1 : Int))), ((49 : Nat), AV.undef), ((50 : Nat), AV.undef), ((51 : Nat), AV.undef), ((52 : Nat), AV.undef)] []))))))) (by kernel_rfl) ?_
  have bad : ∀ h, digR s = ([], false, false) → RetR digitsC 0 Q [.nils, .bool false, .bool false] h := by
    intro h he
    rw [he] at hq
    refine RetR.out0 hq (fun _ => ?_) ?_
    · simp [resV, new2, new1, new0, scalA]
    · simp [resV, exp2, exp1, exp0, ren0, eqA2, eqL1, eqA, eqA0, natS]
  have core : ∀ neg b, parse s = (neg, b) → (if decide ((b.length : Int) = 0) = true then true else if decide (((b.getD 0 0).toNat : Int) = 48) = true then if decide (1 < (b.length : Int)) = true then true else neg else false) = true → digR s = ([], false, false) := by
    intro neg b hp h
    have : formB neg b = false := by
      by_cases hb : b = []
      · subst hb; simp [formB]
      · have hl : ¬ b.length = 0 := by simpa using hb
        rw [if_neg (by simpa using hl)] at h
        split at h
        · rename_i h48
          have h48 : b.getD 0 0 = 48 := u8_eq (of_decide_eq_true h48)
          split at h
          · rename_i h1; exact formB_zero h48 (by have := of_decide_eq_true h1; omega)
          · rename_i h1
            subst h
            have : b = [48] := by
              cases b with
              | nil => exact absurd rfl hb
              | cons c b =>
                have hl1 : b = [] := by
                  refine List.length_eq_zero_iff.1 ?_
                  have : ¬ 1 < (((c :: b).length : Nat) : Int) := fun h => h1 (decide_eq_true h)
                  simp only [List.length_cons] at this; omega
                subst hl1
                simp at h48; rw [h48]
            subst this; rfl
        · cases h
    simp [digR, hp, this]
  have good : ∀ neg b, parse s = (neg, b) → (if decide ((b.length : Int) = 0) = true then true else if decide (((b.getD 0 0).toNat : Int) = 48) = true then if decide (1 < (b.length : Int)) = true then true else neg else false) = false → b ≠ [] ∧ (b.all isD = true → formB neg b = true) := by
    intro neg b hp h
    have hb : b ≠ [] := by rintro rfl; simp at h
    refine ⟨hb, fun hall => ?_⟩
    have hl : ¬ b.length = 0 := by simpa using hb
    rw [if_neg (by simpa using hl)] at h
    simp only [formB, hall, hb, Bool.and_true]
    simp only [decide_false, Bool.not_false, Bool.true_and]
    split at h
    · rename_i h48
      split at h
      · cases h
      · rename_i h1
        subst h
        have : (decide (1 < b.length)) = false := decide_eq_false fun h => h1 (decide_eq_true (by omega))
        simp only [this, Bool.false_and, Bool.and_false, Bool.not_false, Bool.and_self]
    · rename_i h48
      have e1 : decide (b.getD 0 0 = 48) = false := by
        refine decide_eq_false fun h => h48 ?_
        rw [h]; rfl
      have e2 : decide (b = [48]) = false := by
        refine decide_eq_false fun h => h48 ?_
        rw [h]; rfl
      simp only [e1, e2, Bool.false_and, Bool.and_false, Bool.not_false, Bool.and_self]
  simp only [Tree.holds, Leafs2, inR, lo, hi, Bool.cond_eq_ite]
  refine ⟨fun h => by have := of_decide_eq_true h; omega, fun _ => ⟨fun hneg => ?_, fun hneg => ?_⟩⟩
  · simp only [hneg]
    obtain ⟨b, rfl⟩ : ∃ b, s = 45 :: b := by
      cases s with
      | nil => simp at hneg
      | cons c b =>
        have : c = 45 := by
          have : ((c.toNat : Nat) : Int) = 45 := by simpa using hneg
          exact u8_eq this
        exact ⟨b, by rw [this]⟩
    have hd : List.drop 1 (List.take (45 :: b).length (45 :: b)) = b := by simp
    rw [hd]
    have hp : parse (45 :: b) = (true, b) := rfl
    refine ⟨by simp; omega, fun _ => ⟨fun h => by have := of_decide_eq_false h; omega, fun _ => ⟨fun h => bad _ (core true b hp h), fun h => ⟨by simp at hs; omega, fun _ => ?_⟩⟩⟩⟩
    obtain ⟨g1, g2⟩ := good true b hp h
    refine digits_loop b true (by simp at hs; omega) g1 g2 ?_
    simpa only [digR, hp] using hq
  · simp only [hneg]
    have hp : parse s = (false, s) := by
      cases s with
      | nil => rfl
      | cons c b =>
        have : c ≠ 45 := by
          rintro rfl; simp at hneg
        simp [parse, this]
    refine ⟨fun h => by have := of_decide_eq_false h; omega, fun _ => ⟨fun h => bad _ (core false s hp h), fun h => ⟨by omega, fun _ => ?_⟩⟩⟩
    obtain ⟨g1, g2⟩ := good false s hp h
    refine digits_loop s false hs g1 g2 ?_
    simpa only [digR, hp] using hq
end Go.Proofs.Tryd
end

/- The reference's integers: dividing. -/
section
set_option linter.unusedVariables false
set_option linter.unusedSimpArgs false
set_option maxRecDepth 100000
open Go Go.Sx Go.Proofs Go.Nov
namespace Go.Proofs.Tryd
attribute [local simp] eqKV eqA eqA0 eqH eqB eqL eqL0
noncomputable def K48 : List Go.Sx.Item := [.code (Tryd.f48.body.getD .skip)]
noncomputable def K40 : List Go.Sx.Item := [.code (Tryd.f40.body.getD .skip)]
noncomputable def K42 : List Go.Sx.Item := [.code (Tryd.f42.body.getD .skip)]

def GR2 : Nat → Option Ctr := fun f => if f = 33 then some (digitsC) else none
theorem GR2_ok : ∀ g c, GR2 g = some c → CtrOK Tryd.prog g c := by
  intro g c h
  unfold GR2 at h
  by_cases hg : g = 33
  · subst hg
    rw [if_pos rfl] at h
    cases h
    exact digits_ok
  rw [if_neg hg] at h
  clear hg
  cases h

def rcheckC : Ctr := ctrP true (fun s : List UInt8 => [.str s]) (fun s => s.length < 2 ^ 40) (fun s r => r = errI s) (fun _ (r : Int) => (.int .i64 r, []))
theorem rcheck_ok : CtrOK Tryd.prog 48 rcheckC := by
  refine fn_ctrP (fn := Tryd.f48) (c := Tryd.f48.body.getD .skip) rfl rfl rfl fun s hs O w0 Q hq => ?_
  replace hq := hq _ rfl
  refine SafeK.run (k := K48) hmix GR2_ok [] 400 (T := Tree.ex (fun (x : List UInt8) => eqL [AV.str s] [AV.str x] ∧ List.length x < (1099511627776 : Nat)) fun (n : List UInt8) => Tree.all (fun (r : List Nat × Bool × Bool) => r = digR n) fun (n : List Nat × Bool × Bool) => Tree.ite (!Prod.snd (Prod.snd n)) (Tree.leaf (Leaf2.ret [AV.int IntKind.i64 (12 : Int)] [])) (Tree.ite (decide ((1000 : Int) < (↑(List.length (Prod.fst n)) : Int))) (Tree.leaf (Leaf2.ret [AV.int IntKind.i64 (14 : Int)] [])) (Tree.leaf (Leaf2.ret [AV.int IntKind.i64 (0 : Int)] [])))) (by kernel_rfl) ?_
  simp only [Tree.holds, Leafs2]
  refine ⟨s, ⟨by simp, hs⟩, ⟨_, rfl⟩, ?_⟩
  rintro _ rfl
  unfold errI at hq
  unfold digR
  cases hf : formB (parse s).1 (parse s).2 with
  | false =>
    rw [hf] at hq
    exact ⟨fun _ => RetR.scal hq rfl (by simp [resV]), fun h => by simp at h⟩
  | true =>
    rw [hf, if_pos rfl] at hq
    refine ⟨fun h => by simp at h, fun _ => ⟨fun h => ?_, fun h => ?_⟩⟩
    · have h : 1000 < (parse s).2.length := by simp [dg_len] at h; omega
      rw [if_pos h] at hq
      exact RetR.scal hq rfl (by simp [resV])
    · have h : ¬ 1000 < (parse s).2.length := by simp [dg_len] at h; omega
      rw [if_neg h] at hq
      exact RetR.scal hq rfl (by simp [resV])
def GR3 : Nat → Option Ctr := fun f => if f = 48 then some (rcheckC) else none
theorem GR3_ok : ∀ g c, GR3 g = some c → CtrOK Tryd.prog g c := by
  intro g c h
  unfold GR3 at h
  by_cases hg : g = 48
  · subst hg
    rw [if_pos rfl] at h
    cases h
    exact rcheck_ok
  rw [if_neg hg] at h
  clear hg
  cases h

def bothC : Ctr := ctrP true (fun p : List UInt8 × List UInt8 => [.str p.1, .str p.2]) (fun p => p.1.length < 2 ^ 40 ∧ p.2.length < 2 ^ 40) (fun p r => r = errI2 p.1 p.2) (fun _ (r : Int) => (.int .i64 r, []))
theorem both_ok : CtrOK Tryd.prog 40 bothC := by
  refine fn_ctrP (fn := Tryd.f40) (c := Tryd.f40.body.getD .skip) rfl rfl rfl fun p hp O w0 Q hq => ?_
  obtain ⟨s, t⟩ := p
  obtain ⟨hs, ht⟩ := hp
  replace hq := hq _ rfl
  simp only at hs ht hq
  refine SafeK.run (k := K40) hmix GR3_ok [] 400 (T := Tree.ex (fun (x : List UInt8) => eqL [AV.str s] [AV.str x] ∧ List.length x < (1099511627776 : Nat)) fun (n : List UInt8) => Tree.all (fun (r : Int) => r = errI n) fun (n : Int) => Tree.ite (!decide (n = (0 : Int))) (Tree.ex (fun (x : List UInt8) => eqL [AV.str s] [AV.str x] ∧ List.length x < (1099511627776 : Nat)) fun (n : List UInt8) => Tree.all (fun (r : Int) => r = errI n) fun (n : Int) => Tree.leaf (Leaf2.ret [AV.int IntKind.i64 n] [])) (Tree.ex (fun (x : List UInt8) => eqL [AV.str t] [AV.str x] ∧ List.length x < (1099511627776 : Nat)) fun (n : List UInt8) => Tree.all (fun (r : Int) => r = errI n) fun (n : Int) => Tree.leaf (Leaf2.ret [AV.int IntKind.i64 n] []))) (by kernel_rfl) ?_
  simp only [Tree.holds, Leafs2]
  unfold errI2 at hq
  refine ⟨s, ⟨by simp, hs⟩, ⟨_, rfl⟩, ?_⟩
  rintro _ rfl
  refine ⟨fun h => ?_, fun h => ?_⟩
  · have h : ¬ errI s = 0 := by simpa using h
    rw [if_neg h] at hq
    refine ⟨s, ⟨by simp, hs⟩, ⟨_, rfl⟩, ?_⟩
    rintro _ rfl
    exact RetR.scal hq rfl (by simp [resV])
  · have h : errI s = 0 := by simpa using h
    rw [if_pos h] at hq
    refine ⟨t, ⟨by simp, ht⟩, ⟨_, rfl⟩, ?_⟩
    rintro _ rfl
    exact RetR.scal hq rfl (by simp [resV])
def GR4 : Nat → Option Ctr := fun f => if f = 50 then some (rminusC) else if f = 49 then some (greaterC) else none
theorem GR4_ok : ∀ g c, GR4 g = some c → CtrOK Tryd.prog g c := by
  intro g c h
  unfold GR4 at h
  by_cases hg : g = 50
  · subst hg
    rw [if_pos rfl] at h
    cases h
    exact rminus_ok
  rw [if_neg hg] at h
  clear hg
  by_cases hg : g = 49
  · subst hg
    rw [if_pos rfl] at h
    cases h
    exact greater_ok
  rw [if_neg hg] at h
  clear hg
  cases h

def rdivR (p : List Nat × List Nat) (r : List Nat × List Nat) : Prop := r.1.length = p.1.length ∧ Ten.dig r.1 ∧ Ten.val r.1 = Ten.val p.1 / Ten.val p.2 ∧ r.2.length ≤ p.1.length ∧ Ten.dig r.2 ∧ Ten.val r.2 = Ten.val p.1 % Ten.val p.2
def rdivC : Ctr := ctrP false (fun p : List Nat × List Nat => [nat6 p.1, nat6 p.2]) (fun p => Ten.dig p.1 ∧ Ten.dig p.2 ∧ p.1.length < 2 ^ 38 ∧ p.2.length < 2 ^ 38 ∧ 0 < Ten.val p.2) rdivR (fun _ r => (.tup [nat6 r.1, nat6 r.2], []))
def SRd (l m : List Nat) (n : Nat) : KV := [(0, nat6 l), (1, nat6 m), (6, .int .i64 (n : Int)), (7, .undef), (8, .undef), (9, .undef), (15, .undef), (16, .undef), (17, .undef), (18, .undef), (19, .undef), (20, .undef)]
def qz (i : Nat) (qs : List Nat) : List Nat := List.replicate i 0 ++ qs
def SRo (l m qs r : List Nat) (i : Nat) : KV := [(0, nat6 l), (1, nat6 m), (6, .int .i64 (m.length : Int)), (7, .osl 0 1 0 l.length), (8, nat6 r), (9, .int .i64 ((i : Int) - 1)), (15, .undef), (16, .undef), (17, .undef), (18, .undef), (19, .undef), (20, .undef)]
theorem eqG_cons {k : IntKind} {x n : Nat} {r : List Nat} (hn : n ≤ 1 + r.length) : eqG n 1 (viewG (appG 1 (listG 1 [.int k (x : Int)]) (natG k r)) 0) (natG k ((x :: r).take n)) := by
  intro j o hj ho
  have ho : o = 0 := by omega
  subst ho
  simp only [viewG, appG, listG, natG, Nat.zero_add]
  rw [getD_tk hj]
  by_cases h : j < 1
  · have : j = 0 := by omega
    subst this; simp
  · obtain ⟨i, rfl⟩ : ∃ i, j = i + 1 := ⟨j - 1, by omega⟩
    simp
def SRn (l m r : List Nat) (p : Nat) : KV := [(0, nat6 l), (1, nat6 m), (6, .int .i64 (m.length : Int)), (7, .osl 0 1 0 l.length), (8, nat6 r), (9, .int .i64 (p : Int)), (15, .undef), (16, .undef), (17, .undef), (18, .undef), (19, .undef), (20, .undef)]
theorem rdiv_inner {O : Nat → Prop} {w0 : World} {Hs : Nat → KV → Heap → Prop} {R : List AV → Heap → Prop} (l m qs r0 : List Nat) (p V : Nat) (hm : Ten.dig m) (hll : l.length < 2 ^ 38) (hml : m.length < 2 ^ 38) (hm0 : 0 < Ten.val m) (hp : p < l.length)
    (hql : qs.length + (p + 1) = l.length) (hV : V < 10 * Ten.val m) (hrd : Ten.dig r0) (hrl : r0.length ≤ m.length + 1) (hrv : Ten.val r0 = V)
    (hback : ∀ k r, k < 10 → Ten.dig r → r.length = r0.length → Ten.val r < Ten.val m → V = k * Ten.val m + Ten.val r → ∀ kv h, LeK 0 Tryd.f42.ntmps kv h (SRo l m (k :: qs) r p) [.arr l.length 1 (natG .i64 (qz p (k :: qs)))] → Hs 0 kv h)
    (kv : KV) (h : Heap) (hle : LeK 0 Tryd.f42.ntmps kv h (SRn l m r0 p) [.arr l.length 1 (natG .i64 (qz p (0 :: qs)))]) :
    SafeK Tryd.prog Tryd.f42 O 0 w0 [] Hs R (.code (.loop (lps (inside (inside K42 0) 0) 0).1) :: (lps (inside (inside K42 0) 0) 0).2) (mk Tryd.f42.ntmps kv h) := by
  refine SafeK.loop (ι := {z : Nat × List Nat // Ten.dig z.2 ∧ z.2.length = r0.length ∧ V = z.1 * Ten.val m + Ten.val z.2}) (fun z => SRn l m z.1.2 p) (fun z => [.arr l.length 1 (natG .i64 (qz p (z.1.1 :: qs)))]) (fun z => Ten.val z.1.2) ⟨(0, r0), hrd, rfl, by simp [hrv]⟩ 1 hle ?_ (by kernel_rfl)
  rintro ⟨⟨k, r⟩, hrd2, hrl2, hv⟩
  simp only at hrd2 hrl2 hv
  have hk : k < 10 := by
    refine Nat.lt_of_not_le fun h => ?_
    have : 10 * Ten.val m ≤ k * Ten.val m := Nat.mul_le_mul_right _ h
    omega
  have hqp : (qz p (k :: qs)).getD p 0 = k := by rw [qz, getD_app_r (by simp)]; simp
  have hset : (qz p (k :: qs)).set p (k + 1) = qz p ((k + 1) :: qs) := by
    simp [qz, List.set_append]
  have hqln : (qz p (k :: qs)).length = l.length := by simp [qz]; omega
  obtain ⟨q, hq⟩ : ∃ q, qz p (k :: qs) = q := ⟨_, rfl⟩
  simp only [hq] at hqp hset hqln ⊢
  refine SafeK.run (k := inside (inside (inside K42 0) 0) 0) hmix GR4_ok [0, 1, 6, 7, 8, 9, 15, 16, 17, 18, 19, 20] 400 (T := Tree.ex (fun (x : List Nat × List Nat) => eqL [AV.sl (List.length r) (1 : Nat) (natG IntKind.i64 r), AV.sl (List.length m) (1 : Nat) (natG IntKind.i64 m)] [AV.sl (List.length (Prod.fst x)) (1 : Nat) (natG IntKind.i64 (Prod.fst x)), AV.sl (List.length (Prod.snd x)) (1 : Nat) (natG IntKind.i64 (Prod.snd x))] ∧ Ten.dig (Prod.fst x) ∧ Ten.dig (Prod.snd x) ∧ List.length (Prod.fst x) < (4611686018427387904 : Nat) ∧ List.length (Prod.snd x) < (4611686018427387904 : Nat)) fun (n : List Nat × List Nat) => Tree.all (fun (r : Int) => r = cmpN (Ten.val (Prod.fst n)) (Ten.val (Prod.snd n))) fun (n : Int) => Tree.ite (decide ((0 : Int) ≤ n)) (Tree.ex (fun (x : List Nat × List Nat) => eqL [AV.sl (List.length r) (1 : Nat) (natG IntKind.i64 r), AV.sl (List.length m) (1 : Nat) (natG IntKind.i64 m)] [AV.sl (List.length (Prod.fst x)) (1 : Nat) (natG IntKind.i64 (Prod.fst x)), AV.sl (List.length (Prod.snd x)) (1 : Nat) (natG IntKind.i64 (Prod.snd x))] ∧ Ten.dig (Prod.fst x) ∧ Ten.dig (Prod.snd x) ∧ List.length (Prod.fst x) < (1099511627776 : Nat) ∧ Ten.val (Prod.snd x) ≤ Ten.val (Prod.fst x)) fun (n : List Nat × List Nat) => Tree.all (fun (r : List Nat) => List.length r = List.length (Prod.fst n) ∧ Ten.dig r ∧ Ten.val r + Ten.val (Prod.snd n) = Ten.val (Prod.fst n)) fun (n : List Nat) => Tree.side ((0 : Int) ≤ (↑p : Int) ∧ (↑p : Int) < (↑(List.length l) : Int)) (Tree.side (inR IntKind.i64 ((↑(List.getD q ((0 : Nat) + Int.toNat (↑p : Int)) (0 : Nat)) : Int) + (1 : Int))) (Tree.side ((0 : Int) ≤ (↑p : Int) ∧ (↑p : Int) < (↑(List.length l) : Int)) (Tree.leaf (Leaf2.back (1 : Nat) [((0 : Nat), AV.sl (List.length l) (1 : Nat) (natG IntKind.i64 l)), ((1 : Nat), AV.sl (List.length m) (1 : Nat) (natG IntKind.i64 m)), ((6 : Nat), AV.int IntKind.i64 (↑(List.length m) : Int)), ((7 : Nat), AV.osl (0 : Nat) (1 : Nat) (0 : Nat) (List.length l)), ((8 : Nat), AV.sl (List.length n) (1 : Nat) (natG IntKind.i64 n)), ((9 : Nat), AV.int IntKind.i64 (↑p : Int)), ((15 : Nat), AV.undef), ((16 : Nat), AV.undef), ((17 : Nat), AV.undef), ((18 : Nat), AV.undef), ((19 : Nat), AV.undef), ((20 : Nat), AV.undef)] [Blk.arr (List.length l) (1 : Nat) (updG (natG IntKind.i64 q) ((0 : Nat) + Int.toNat (↑p : Int)) (0 : Nat) [AV.int IntKind.i64 ((↑(List.getD q ((0 : Nat) + Int.toNat (↑p : Int)) (0 : Nat)) : Int) + (1 : Int))])]))))) (Tree.side (inR IntKind.i64 ((↑p : Int) - (1 : Int))) (Tree.leaf (Leaf2.back (0 : Nat) [((0 : Nat), AV.sl (List.length l) (1 : Nat) (natG IntKind.i64 l)), ((1 : Nat), AV.sl (List.length m) (1 : Nat) (natG IntKind.i64 m)), ((6 : Nat), AV.int IntKind.i64 (↑(List.length m) : Int)), ((7 : Nat), AV.osl (0 : Nat) (1 : Nat) (0 : Nat) (List.length l)), ((8 : Nat), AV.sl (List.length r) (1 : Nat) (natG IntKind.i64 r)), ((9 : Nat), AV.int IntKind.i64 ((↑p : Int) - (1 : Int))), ((15 : Nat), AV.undef), ((16 : Nat), AV.undef), ((17 : Nat), AV.undef), ((18 : Nat), AV.undef), ((19 : Nat), AV.undef), ((20 : Nat), AV.undef)] [Blk.arr (List.length l) (1 : Nat) (natG IntKind.i64 q)])))) (by kernel_rfl) ?_
  simp only [Tree.holds, Leafs2, inR, lo, hi, Int.toNat_natCast]
  refine ⟨(r, m), ⟨by simp [eqG_refl], hrd2, hm, by simp only; omega, by simp only; omega⟩, ⟨_, rfl⟩, ?_⟩
  rintro _ rfl
  simp only [Nat.zero_add]
  refine ⟨fun hge => ?_, fun hlt => ?_⟩
  · have hge : Ten.val m ≤ Ten.val r := cmpN_ge.1 (of_decide_eq_true hge)
    refine ⟨(r, m), ⟨by simp [eqG_refl], hrd2, hm, by simp only; omega, hge⟩, minus_ex hrd2 hge, ?_⟩
    rintro r2 ⟨h1, h2, h3⟩
    simp only at h1 h3
    rw [hqp]
    refine ⟨by omega, fun _ => ⟨by omega, fun _ => ⟨by omega, fun _ => ?_⟩⟩⟩
    rw [if_pos trivial]
    refine ⟨⟨(k + 1, r2), h2, h1.trans hrl2, ?_⟩, by show Ten.val r2 < Ten.val r; omega, by simp [SRn, natS, eqG_refl], ?_, by kernel_rfl, Nat.zero_le _⟩
    · show V = (k + 1) * Ten.val m + Ten.val r2
      rw [Nat.add_mul, Nat.one_mul]; omega
    · simp only [← hset]
      have h1 := eqG_set (k := .i64) (l := q) (v := ((k : Int) + 1)) (i := p) (by omega) (by omega)
      have e : ((k : Int) + 1).toNat = k + 1 := by omega
      rw [e, hqln] at h1
      exact ⟨⟨rfl, rfl, h1⟩, trivial⟩
  · have hlt : Ten.val r < Ten.val m := by
      have := of_decide_eq_false hlt
      rw [cmpN_ge] at this
      omega
    refine ⟨by omega, fun _ => ?_⟩
    rw [if_neg (by decide)]
    refine hback k r hk hrd2 hrl2 hlt hv _ _ ⟨by simp [SRo, natS, eqG_refl], ?_, by kernel_rfl, Nat.zero_le _⟩
    rw [hq]
    simp [eqG_refl]
structure IRo (l m : List Nat) where
  qs : List Nat
  r : List Nat
  i : Nat
  hi : i ≤ l.length
  hql : qs.length + i = l.length
  hqd : Ten.dig qs
  hrd : Ten.dig r
  hrl : r.length ≤ m.length + 1
  hrl2 : r.length + i ≤ l.length
  hlt : Ten.val r < Ten.val m
  hv : Ten.val (l.drop i) = Ten.val qs * Ten.val m + Ten.val r
theorem rdiv_outer {O : Nat → Prop} {w0 : World} {Q : AV × Heap → Prop} {Hs : Nat → KV → Heap → Prop} (l m : List Nat) (hl : Ten.dig l) (hm : Ten.dig m) (hll : l.length < 2 ^ 38) (hml : m.length < 2 ^ 38) (hm0 : 0 < Ten.val m) (hmt : Ten.val m < 10 ^ m.length)
    (hq : ∀ r, rdivR (l, m) r → Q (.tup [nat6 r.1, nat6 r.2], [])) (kv : KV) (h : Heap) (hle : LeK 0 Tryd.f42.ntmps kv h (SRo l m [] [] l.length) [.arr l.length 1 (natG .i64 (qz l.length []))]) :
    SafeK Tryd.prog Tryd.f42 O 0 w0 [] Hs (RetR rdivC 0 Q) (.code (.loop (lps (inside K42 0) 0).1) :: (lps (inside K42 0) 0).2) (mk Tryd.f42.ntmps kv h) := by
  refine SafeK.loop (ι := IRo l m) (fun z => SRo l m z.qs z.r z.i) (fun z => [.arr l.length 1 (natG .i64 (qz z.i z.qs))]) (fun z => z.i) ⟨[], [], l.length, Nat.le_refl _, by simp, by simp [Ten.dig], by simp [Ten.dig], by simp, by simp, by simpa [Ten.val] using hm0, by simp [Ten.val]⟩ 0 hle ?_ (by kernel_rfl)
  rintro ⟨qs, r, i, hil, hql, hqd, hrd, hrl, hrl2, hrv, hv⟩
  obtain ⟨q, hqz⟩ : ∃ q, qz i qs = q := ⟨_, rfl⟩
  simp only [hqz]
  refine SafeK.run (k := inside (inside K42 0) 0) hmix GR4_ok [0, 1, 6, 7, 8, 9, 15, 16, 17, 18, 19, 20] 400 (T := Tree.ite (decide ((0 : Int) ≤ (↑i : Int) - (1 : Int))) (Tree.side ((0 : Int) ≤ (↑i : Int) - (1 : Int) ∧ (↑i : Int) - (1 : Int) < (↑(List.length l) : Int)) (Tree.side ((0 : Nat) = (0 : Nat) ∧ (1 : Nat) ≤ (1 : Nat) ∧ ((1 : Nat) + List.length r) * (8 : Nat) ≤ (140737488355328 : Nat)) (Tree.side (inR IntKind.i64 ((↑(List.length m) : Int) + (1 : Int))) (Tree.ite (decide ((↑(List.length m) : Int) + (1 : Int) < (↑((1 : Nat) + List.length r) : Int))) (Tree.side (inR IntKind.i64 ((↑(List.length m) : Int) + (1 : Int))) (Tree.side ((0 : Int) ≤ (↑(List.length m) : Int) + (1 : Int) ∧ (↑(List.length m) : Int) + (1 : Int) ≤ (↑((1 : Nat) + List.length r) : Int)) (Tree.leaf (Leaf2.loop (Prod.fst (lps (inside (inside K42 (0 : Nat)) (0 : Nat)) (0 : Nat))) (Prod.snd (lps (inside (inside K42 (0 : Nat)) (0 : Nat)) (0 : Nat))) [((0 : Nat), AV.sl (List.length l) (1 : Nat) (natG IntKind.i64 l)), ((1 : Nat), AV.sl (List.length m) (1 : Nat) (natG IntKind.i64 m)), ((6 : Nat), AV.int IntKind.i64 (↑(List.length m) : Int)), ((7 : Nat), AV.osl (0 : Nat) (1 : Nat) (0 : Nat) (List.length l)), ((8 : Nat), AV.osl (1 : Nat) (1 : Nat) (0 : Nat) (Int.toNat ((↑(List.length m) : Int) + (1 : Int)) - (0 : Nat))), ((9 : Nat), AV.int IntKind.i64 ((↑i : Int) - (1 : Int))), ((15 : Nat), AV.undef), ((16 : Nat), AV.undef), ((17 : Nat), AV.undef), ((18 : Nat), AV.undef), ((19 : Nat), AV.undef), ((20 : Nat), AV.undef)] [Blk.arr (List.length l) (1 : Nat) (natG IntKind.i64 q), Blk.arr ((1 : Nat) + List.length r) (1 : Nat) (appG (1 : Nat) (listG (1 : Nat) [AV.int IntKind.i64 (↑(List.getD l (Int.toNat ((↑i : Int) - (1 : Int))) (0 : Nat)) : Int)]) (natG IntKind.i64 r))])))) (Tree.leaf (Leaf2.loop (Prod.fst (lps (inside (inside K42 (0 : Nat)) (0 : Nat)) (0 : Nat))) (Prod.snd (lps (inside (inside K42 (0 : Nat)) (0 : Nat)) (0 : Nat))) [((0 : Nat), AV.sl (List.length l) (1 : Nat) (natG IntKind.i64 l)), ((1 : Nat), AV.sl (List.length m) (1 : Nat) (natG IntKind.i64 m)), ((6 : Nat), AV.int IntKind.i64 (↑(List.length m) : Int)), ((7 : Nat), AV.osl (0 : Nat) (1 : Nat) (0 : Nat) (List.length l)), ((8 : Nat), AV.osl (1 : Nat) (1 : Nat) (0 : Nat) ((1 : Nat) + List.length r)), ((9 : Nat), AV.int IntKind.i64 ((↑i : Int) - (1 : Int))), ((15 : Nat), AV.undef), ((16 : Nat), AV.undef), ((17 : Nat), AV.undef), ((18 : Nat), AV.undef), ((19 : Nat), AV.undef), ((20 : Nat), AV.undef)] [Blk.arr (List.length l) (1 : Nat) (natG IntKind.i64 q), Blk.arr ((1 : Nat) + List.length r) (1 : Nat) (appG (1 : Nat) (listG (1 : Nat) [AV.int IntKind.i64 (↑(List.getD l (Int.toNat ((↑i : Int) - (1 : Int))) (0 : Nat)) : Int)]) (natG IntKind.i64 r))])))))) (Tree.leaf (Leaf2.ret [AV.osl (0 : Nat) (1 : Nat) (0 : Nat) (List.length l), AV.sl (List.length r) (1 : Nat) (natG IntKind.i64 r)] [Blk.arr (List.length l) (1 : Nat) (natG IntKind.i64 q)]))) (by kernel_rfl) ?_
  simp only [Tree.holds, Leafs2, inR, lo, hi, Int.toNat_natCast]
  refine ⟨fun hge => ?_, fun hlt => ?_⟩
  · obtain ⟨p, rfl⟩ : ∃ p, i = p + 1 := ⟨i - 1, by have := of_decide_eq_true hge; omega⟩
    have e : (((p + 1 : Nat) : Int) - 1).toNat = p := by omega
    have e2 : ((p + 1 : Nat) : Int) - 1 = (p : Int) := by omega
    have e3 : ((m.length : Int) + 1).toNat - 0 = m.length + 1 := by omega
    have hx : l.getD p 0 < 10 := Ten.getD_lt hl p
    have hdrop : l.drop p = l.getD p 0 :: l.drop (p + 1) := by
      have h1 : p < l.length := by omega
      rw [List.drop_eq_getElem_cons h1]
      simp [List.getD, h1]
    simp only [e2, e3, Int.toNat_natCast]
    obtain ⟨x, hxe⟩ : ∃ x, l.getD p 0 = x := ⟨_, rfl⟩
    simp only [hxe] at hx hdrop ⊢
    have hVv : Ten.val (x :: r) = x + 10 * Ten.val r := rfl
    have hV : Ten.val (x :: r) < 10 * Ten.val m := by rw [hVv]; omega
    have hpow : 10 ^ (m.length + 1) = 10 ^ m.length * 10 := Nat.pow_succ ..
    have hcut : Ten.val ((x :: r).take (m.length + 1)) = Ten.val (x :: r) := take_val (by rw [hpow]; omega)
    have hdig : Ten.dig ((x :: r).take (m.length + 1)) := Ten.dig_take (Ten.dig_cons.2 ⟨hx, hrd⟩) _
    have main : ∀ n, n = ((x :: r).take (m.length + 1)).length → SafeK Tryd.prog Tryd.f42 O 0 w0 [] (fun d kv h => if d = 0 then ∃ x' : IRo l m, x'.i < p + 1 ∧ LeK 0 Tryd.f42.ntmps kv h (SRo l m x'.qs x'.r x'.i) [.arr l.length 1 (natG .i64 (qz x'.i x'.qs))] else Hs d kv h) (RetR rdivC 0 Q)
        (.code (.loop (lps (inside (inside K42 0) 0) 0).1) :: (lps (inside (inside K42 0) 0) 0).2)
        (mk Tryd.f42.ntmps [(0, nat6 l), (1, nat6 m), (6, .int .i64 (m.length : Int)), (7, .osl 0 1 0 l.length), (8, .osl 1 1 0 n), (9, .int .i64 (p : Int)), (15, .undef), (16, .undef), (17, .undef), (18, .undef), (19, .undef), (20, .undef)]
          [.arr l.length 1 (natG .i64 q), .arr (1 + r.length) 1 (appG 1 (listG 1 [.int .i64 (x : Int)]) (natG .i64 r))]) := by
      intro n hn
      refine SafeK.freeze [1] (by simp) (by kernel_rfl) ?_
      refine rdiv_inner l m qs ((x :: r).take (m.length + 1)) p (Ten.val (x :: r)) hm hll hml hm0 (by omega) (by omega) hV hdig (by simp; omega) hcut ?_ _ _ ⟨?_, ?_, by kernel_rfl, Nat.zero_le _⟩
      · intro k r' hk hd' hl' hlt' hv' kv h hle'
        rw [if_pos rfl]
        rw [List.length_take, List.length_cons] at hl'
        refine ⟨⟨k :: qs, r', p, by omega, by simp; omega, Ten.dig_cons.2 ⟨hk, hqd⟩, hd', by omega, by omega, hlt', ?_⟩, Nat.lt_succ_self p, hle'⟩
        rw [hdrop]
        show x + 10 * Ten.val (l.drop (p + 1)) = (k + 10 * Ten.val qs) * Ten.val m + Ten.val r'
        rw [hv, Nat.add_mul, Nat.mul_assoc]
        rw [hVv] at hv'
        omega
      · have : frzKV [1] ([.arr l.length 1 (natG .i64 q), .arr (1 + r.length) 1 (appG 1 (listG 1 [.int .i64 (x : Int)]) (natG .i64 r))]) [(0, nat6 l), (1, nat6 m), (6, .int .i64 (m.length : Int)), (7, .osl 0 1 0 l.length), (8, .osl 1 1 0 n), (9, .int .i64 (p : Int)), (15, .undef), (16, .undef), (17, .undef), (18, .undef), (19, .undef), (20, .undef)] = [(0, nat6 l), (1, nat6 m), (6, .int .i64 (m.length : Int)), (7, .osl 0 1 0 l.length), (8, .sl n 1 (viewG (appG 1 (listG 1 [.int .i64 (x : Int)]) (natG .i64 r)) 0)), (9, .int .i64 (p : Int)), (15, .undef), (16, .undef), (17, .undef), (18, .undef), (19, .undef), (20, .undef)] := rfl
        rw [this]
        have hg := eqG_cons (k := .i64) (x := x) (r := r) (n := n) (by rw [hn]; simp; omega)
        have h2 : (x :: r).take n = (x :: r).take (m.length + 1) := by rw [hn, List.length_take, ← List.take_take, List.take_length]
        rw [h2] at hg
        subst hn
        refine ⟨rfl, by simp [natS, eqG_refl], rfl, by simp [natS, eqG_refl], rfl, by simp, rfl, by simp, rfl, ?_, rfl, by simp, by simp⟩
        exact ⟨rfl, rfl, hg⟩
      · have : deadH [1] (killH [1] [.arr l.length 1 (natG .i64 q), .arr (1 + r.length) 1 (appG 1 (listG 1 [.int .i64 (x : Int)]) (natG .i64 r))]) = [.arr l.length 1 (natG .i64 q), .dead] := rfl
        rw [this]
        have hqq : q = qz p (0 :: qs) := by rw [← hqz]; simp [qz, List.replicate_succ']
        rw [← hqq]
        simp [eqG_refl]
    refine ⟨by omega, fun _ => ⟨⟨trivial, Nat.le_refl _, by omega⟩, fun _ => ⟨by omega, fun _ => ⟨fun hbig => ?_, fun hsm => ?_⟩⟩⟩⟩
    · have hbig := of_decide_eq_true hbig
      refine ⟨by omega, fun _ => ⟨by omega, fun _ => main _ ?_⟩⟩
      rw [List.length_take, List.length_cons]; omega
    · have hsm := of_decide_eq_false hsm
      refine main _ ?_
      rw [List.length_take, List.length_cons]; omega
  · have hi0 : i = 0 := by have := of_decide_eq_false hlt; omega
    subst hi0
    rw [← hqz]
    have hqq : qz 0 qs = qs := by simp [qz]
    rw [hqq]
    have hql2 : l.length = qs.length := by omega
    rw [List.drop_zero] at hv
    have hb : ([.arr l.length 1 (natG .i64 qs)] : Heap)[0]? = some (.arr l.length 1 (natG .i64 qs)) := rfl
    have hd : Ten.val l / Ten.val m = Ten.val qs ∧ Ten.val l % Ten.val m = Ten.val r := by
      rw [hv, Nat.mul_comm, Nat.mul_add_div hm0, Nat.mul_add_mod, Nat.div_eq_of_lt hrv, Nat.mod_eq_of_lt hrv]
      exact ⟨by omega, rfl⟩
    refine RetR.out0 (hq (qs, r) ⟨by simp only; omega, hqd, by simp only [hd.1], by simp only; omega, hrd, by simp only [hd.2]⟩) (fun h => by cases h) ?_
    simp only [resV, exp2, List.map_cons, List.map_nil, exp1]
    rw [exp0_own hb (by omega), view0]
    simp [eqA2, eqL1, eqA, eqA0, natS, eqG_refl, exp0, ren0, hql2]
theorem rdiv_ok : CtrOK Tryd.prog 42 rdivC := by
  refine fn_ctrP (fn := Tryd.f42) (c := Tryd.f42.body.getD .skip) rfl rfl rfl fun p hp O w0 Q hq => ?_
  obtain ⟨l, m⟩ := p
  obtain ⟨hl, hm, hll, hml, hm0⟩ := hp
  simp only at hq hl hm hll hml hm0
  refine SafeK.run (k := K42) hmix GR4_ok [0, 1, 6, 7, 8, 9, 15, 16, 17, 18, 19, 20] 400 (T := Tree.leaf (Leaf2.loop (Prod.fst (lps K42 (0 : Nat))) (Prod.snd (lps K42 (0 : Nat))) [((0 : Nat), AV.sl (List.length l) (1 : Nat) (natG IntKind.i64 l)), ((1 : Nat), AV.sl (List.length m) (1 : Nat) (natG IntKind.i64 m)), ((6 : Nat), AV.int IntKind.i64 (↑(List.length m) : Int)), ((7 : Nat), AV.undef), ((8 : Nat), AV.undef), ((9 : Nat), AV.undef), ((15 : Nat), AV.undef), ((16 : Nat), AV.undef), ((17 : Nat), AV.undef), ((18 : Nat), AV.undef), ((19 : Nat), AV.undef), ((20 : Nat), AV.undef)] [])) (by kernel_rfl) ?_
  simp only [Tree.holds, Leafs2]
  refine SafeK.loop (ι := {n : Nat // n ≤ m.length ∧ Ten.tlen m ≤ n}) (fun n => SRd l m n.1) (fun _ => []) (fun n => n.1) ⟨m.length, Nat.le_refl _, Ten.tlen_le m⟩ 0 ?_ ?_ (by kernel_rfl)
  · exact ⟨by simp [SRd, natS, eqG_refl], by simp, by kernel_rfl, Nat.zero_le _⟩
  · rintro ⟨n, hn, ht⟩
    refine SafeK.run (k := inside K42 0) hmix GR4_ok [0, 1, 6, 7, 8, 9, 15, 16, 17, 18, 19, 20] 400 (T := Tree.side (decide ((1 : Int) < (↑n : Int)) = true → inR IntKind.i64 ((↑n : Int) - (1 : Int))) (Tree.side (decide ((1 : Int) < (↑n : Int)) = true → (0 : Int) ≤ (↑n : Int) - (1 : Int) ∧ (↑n : Int) - (1 : Int) < (↑(List.length m) : Int)) (Tree.ite (bif decide ((1 : Int) < (↑n : Int)) then decide ((↑(List.getD m (Int.toNat ((↑n : Int) - (1 : Int))) (0 : Nat)) : Int) = (0 : Int)) else false) (Tree.side (inR IntKind.i64 ((↑n : Int) - (1 : Int))) (Tree.leaf (Leaf2.back (0 : Nat) [((0 : Nat), AV.sl (List.length l) (1 : Nat) (natG IntKind.i64 l)), ((1 : Nat), AV.sl (List.length m) (1 : Nat) (natG IntKind.i64 m)), ((6 : Nat), AV.int IntKind.i64 ((↑n : Int) - (1 : Int))), ((7 : Nat), AV.undef), ((8 : Nat), AV.undef), ((9 : Nat), AV.undef), ((15 : Nat), AV.undef), ((16 : Nat), AV.undef), ((17 : Nat), AV.undef), ((18 : Nat), AV.undef), ((19 : Nat), AV.undef), ((20 : Nat), AV.undef)] []))) (Tree.side ((0 : Int) ≤ (↑n : Int) ∧ (↑n : Int) ≤ (↑(List.length m) : Int)) (Tree.side ((0 : Int) ≤ (↑(List.length l) : Int) ∧ (↑(List.length l) : Int) ≤ (↑(List.length l) : Int) ∧ inR IntKind.i64 (↑(List.length l) : Int) ∧ Int.toNat (↑(List.length l) : Int) * (8 : Nat) ≤ (140737488355328 : Nat)) (Tree.side (inR IntKind.i64 ((↑(List.length l) : Int) - (1 : Int))) (Tree.leaf (Leaf2.loop (Prod.fst (lps (inside K42 (0 : Nat)) (0 : Nat))) (Prod.snd (lps (inside K42 (0 : Nat)) (0 : Nat))) [((0 : Nat), AV.sl (List.length l) (1 : Nat) (natG IntKind.i64 l)), ((1 : Nat), AV.sl (Int.toNat (↑n : Int) - (0 : Nat)) (1 : Nat) (viewG (natG IntKind.i64 m) (0 : Nat))), ((6 : Nat), AV.int IntKind.i64 (↑n : Int)), ((7 : Nat), AV.osl (0 : Nat) (1 : Nat) (0 : Nat) (Int.toNat (↑(List.length l) : Int))), ((8 : Nat), AV.nils), ((9 : Nat), AV.int IntKind.i64 ((↑(List.length l) : Int) - (1 : Int))), ((15 : Nat), AV.undef), ((16 : Nat), AV.undef), ((17 : Nat), AV.undef), ((18 : Nat), AV.undef), ((19 : Nat), AV.undef), ((20 : Nat), AV.undef)] [Blk.arr (Int.toNat (↑(List.length l) : Int)) (1 : Nat) (sameG [AV.int IntKind.i64 (0 : Int)])])))))))) (by kernel_rfl) ?_
    simp only [Tree.holds, Leafs2, inR, lo, hi, Int.toNat_natCast]
    refine ⟨by omega, fun _ => ⟨fun h => by have := of_decide_eq_true h; omega, fun _ => ⟨fun hz => ?_, fun hz => ?_⟩⟩⟩
    · have hn1 : 1 < n := by
        rcases Nat.lt_or_ge 1 n with h | h
        · exact h
        · rw [decide_eq_false (by omega)] at hz; cases hz
      have e : ((n : Int) - 1).toNat = n - 1 := by omega
      have hz : m.getD (n - 1) 0 = 0 := by
        rw [decide_eq_true (by omega), e] at hz
        have := of_decide_eq_true hz
        omega
      refine ⟨by omega, fun _ => ?_⟩
      rw [if_pos trivial]
      refine ⟨⟨n - 1, by omega, ?_⟩, by show n - 1 < n; omega, by simp [SRd, natS, eqG_refl]; omega, by simp, by kernel_rfl, Nat.zero_le _⟩
      refine Nat.le_of_not_lt fun hlt => ?_
      have hnt : n = Ten.tlen m := by omega
      subst hnt
      exact Ten.tlen_last m (by omega) hz
    · refine ⟨by omega, fun _ => ⟨by omega, fun _ => ⟨by omega, fun _ => ?_⟩⟩⟩
      have hlen : (m.take n).length = n := by rw [List.length_take]; omega
      have hd : Ten.dig (m.take n) := Ten.dig_take hm n
      have hval : Ten.val (m.take n) = Ten.val m := by
        refine val_eq_all hd hm fun j => ?_
        rcases Nat.lt_or_ge j n with h | h
        · exact getD_tk h
        · rw [getD_out (by omega), Ten.tlen_zero m j (by omega)]
      refine rdiv_outer l (m.take n) hl hd hll (by omega) (by omega) (Ten.val_lt hd) ?_ _ _ ⟨?_, ?_, by kernel_rfl, Nat.zero_le _⟩
      · intro r hr
        refine hq r ?_
        simp only [rdivR, hval] at hr ⊢
        exact hr
      · refine ⟨rfl, by simp [natS, eqG_refl], rfl, ?_, by simp [hlen, natS]⟩
        refine ⟨by rw [hlen]; rfl, rfl, ?_⟩
        intro j o hj ho
        have ho : o = 0 := by omega
        subst ho
        simp only [viewG, natG, Nat.zero_add]
        rw [getD_tk (by omega)]
      · refine ⟨⟨rfl, rfl, ?_⟩, trivial⟩
        intro j o hj ho
        have ho : o = 0 := by omega
        subst ho
        simp only [sameG, natG, qz, List.append_nil]
        rw [getD_rep hj]; rfl
end Go.Proofs.Tryd
end

/- The reference's integers: the greatest common divisor. -/
section
set_option linter.unusedVariables false
set_option linter.unusedSimpArgs false
set_option maxRecDepth 100000
open Go Go.Sx Go.Proofs Go.Nov
namespace Go.Proofs.Tryd
attribute [local simp] eqKV eqA eqA0 eqH eqB eqL eqL0
noncomputable def K35 : List Go.Sx.Item := [.code (Tryd.f35.body.getD .skip)]

def big : Nat := 1000
theorem numI_lt {s : List UInt8} (h : errI s = 0) : numI s < 10 ^ big := by
  obtain ⟨_, h1, _, h2⟩ := errI_sgn h
  exact Nat.lt_of_lt_of_le (numD_lt h1) (Nat.pow_le_pow_right (by decide) h2)
theorem wr_gcd {x y : Nat} (hx : x < 10 ^ big) (hy : y < 10 ^ big) : wr false (Nat.gcd x y) = (textR false (Nat.gcd x y), 0) := by
  have h : Nat.gcd x y < 10 ^ big := by
    rcases Nat.eq_zero_or_pos x with h | h
    · subst h; rw [Nat.gcd_zero_left]; exact hy
    · exact Nat.lt_of_le_of_lt (Nat.le_of_dvd h (Nat.gcd_dvd_left x y)) hx
  have h2 := dec_len_le h
  have hb : big = 1000 := rfl
  unfold wr textR
  split
  · rfl
  · rw [if_neg (by omega)]
theorem digR_ok {s : List UInt8} (h : errI s = 0) : digR s = (dg (parse s).2, (parse s).1, true) ∧ Ten.dig (dg (parse s).2) ∧ (dg (parse s).2).length ≤ 1000 ∧ Ten.val (dg (parse s).2) = numI s := by
  obtain ⟨neg, b, h1, h2, h3, h4, h5, h6⟩ := errI_ok h
  refine ⟨?_, ?_, ?_, dg_val _⟩
  · simp only [digR, h2, h3, if_true]
  · simp only [h2]; exact dg_dig h4
  · simp only [h2, dg_len]; exact h6
def rgcdC : Ctr := ctrP true (fun p : List UInt8 × List UInt8 => [.str p.1, .str p.2]) (fun p => p.1.length < 2 ^ 40 ∧ p.2.length < 2 ^ 40) (fun p r => r = gcdR p.1 p.2) (fun _ r => (.tup [.str r.1, .int .i64 r.2], []))
def SRg (x y : List Nat) : KV := [(7, nat6 x), (10, nat6 y)]
def GR5 : Nat → Option Ctr := fun f => if f = 40 then some (bothC) else if f = 33 then some (digitsC) else if f = 42 then some (rdivC) else if f = 41 then some (zeroC) else if f = 43 then some (rtextC) else none
theorem GR5_ok : ∀ g c, GR5 g = some c → CtrOK Tryd.prog g c := by
  intro g c h
  unfold GR5 at h
  by_cases hg : g = 40
  · subst hg
    rw [if_pos rfl] at h
    cases h
    exact both_ok
  rw [if_neg hg] at h
  clear hg
  by_cases hg : g = 33
  · subst hg
    rw [if_pos rfl] at h
    cases h
    exact digits_ok
  rw [if_neg hg] at h
  clear hg
  by_cases hg : g = 42
  · subst hg
    rw [if_pos rfl] at h
    cases h
    exact rdiv_ok
  rw [if_neg hg] at h
  clear hg
  by_cases hg : g = 41
  · subst hg
    rw [if_pos rfl] at h
    cases h
    exact zero_ok
  rw [if_neg hg] at h
  clear hg
  by_cases hg : g = 43
  · subst hg
    rw [if_pos rfl] at h
    cases h
    exact rtext_ok
  rw [if_neg hg] at h
  clear hg
  cases h

theorem rgcd_ok : CtrOK Tryd.prog 35 rgcdC := by
  refine fn_ctrP (fn := Tryd.f35) (c := Tryd.f35.body.getD .skip) rfl rfl rfl fun p hp O w0 Q hq => ?_
  obtain ⟨s, t⟩ := p
  obtain ⟨hs, ht⟩ := hp
  replace hq := hq _ rfl
  simp only at hs ht hq
  refine SafeK.run (k := K35) hmix GR5_ok [7, 10] 400 (T := Tree.ex (fun (x : List UInt8 × List UInt8) => eqL [AV.str s, AV.str t] [AV.str (Prod.fst x), AV.str (Prod.snd x)] ∧ List.length (Prod.fst x) < (1099511627776 : Nat) ∧ List.length (Prod.snd x) < (1099511627776 : Nat)) fun (n : List UInt8 × List UInt8) => Tree.all (fun (r : Int) => r = errI2 (Prod.fst n) (Prod.snd n)) fun (n : Int) => Tree.ite (!decide (n = (0 : Int))) (Tree.leaf (Leaf2.ret [AV.str (Array.toList #[]), AV.int IntKind.i64 n] [])) (Tree.ex (fun (x : List UInt8) => eqL [AV.str s] [AV.str x] ∧ List.length x < (1099511627776 : Nat)) fun (n : List UInt8) => Tree.all (fun (r : List Nat × Bool × Bool) => r = digR n) fun (n : List Nat × Bool × Bool) => Tree.ex (fun (x : List UInt8) => eqL [AV.str t] [AV.str x] ∧ List.length x < (1099511627776 : Nat)) fun (n_1 : List UInt8) => Tree.all (fun (r : List Nat × Bool × Bool) => r = digR n_1) fun (n_2 : List Nat × Bool × Bool) => Tree.leaf (Leaf2.loop (Prod.fst (lps K35 (0 : Nat))) (Prod.snd (lps K35 (0 : Nat))) [((7 : Nat), AV.sl (List.length (Prod.fst n)) (1 : Nat) (natG IntKind.i64 (Prod.fst n))), ((10 : Nat), AV.sl (List.length (Prod.fst n_2)) (1 : Nat) (natG IntKind.i64 (Prod.fst n_2)))] []))) (by kernel_rfl) ?_
  simp only [Tree.holds, Leafs2]
  refine ⟨(s, t), ⟨by simp, hs, ht⟩, ⟨_, rfl⟩, ?_⟩
  rintro _ rfl
  simp only
  refine ⟨fun he => ?_, fun he => ?_⟩
  · have he : errI2 s t ≠ 0 := by
      intro h; simp [h] at he
    have e : gcdR s t = ([], errI2 s t) := by simp [gcdR, he]
    rw [e] at hq
    exact RetR.scal hq rfl (by simp [resV])
  · have he : errI2 s t = 0 := by
      refine Decidable.byContradiction fun h => ?_
      simp [h] at he
    obtain ⟨h1, h2⟩ := errI2_zero.1 he
    have e : gcdR s t = (textR false (Nat.gcd (numI s) (numI t)), 0) := by
      rw [gcdR, if_pos he]; exact wr_gcd (numI_lt h1) (numI_lt h2)
    rw [e] at hq
    refine ⟨s, ⟨by simp, hs⟩, ⟨_, rfl⟩, ?_⟩
    rintro _ rfl
    refine ⟨t, ⟨by simp, ht⟩, ⟨_, rfl⟩, ?_⟩
    rintro _ rfl
    obtain ⟨a1, a2, a3, a4⟩ := digR_ok h1
    obtain ⟨b1, b2, b3, b4⟩ := digR_ok h2
    rw [a1, b1]
    simp only
    rw [← a4, ← b4] at hq
    generalize dg (parse s).2 = x0 at *
    generalize dg (parse t).2 = y0 at *
    clear a1 b1 e he h1 h2 hs ht a4 b4
    refine SafeK.loop (ι := {z : List Nat × List Nat // Nat.gcd (Ten.val z.1) (Ten.val z.2) = Nat.gcd (Ten.val x0) (Ten.val y0) ∧ Ten.dig z.1 ∧ Ten.dig z.2 ∧ z.1.length ≤ 1000 ∧ z.2.length ≤ 1000}) (fun z => SRg z.1.1 z.1.2) (fun _ => []) (fun z => Ten.val z.1.2) ⟨(x0, y0), rfl, a2, b2, a3, b3⟩ 0 ?_ ?_ (by kernel_rfl)
    · exact ⟨by simp [SRg, natS, eqG_refl], by simp, by kernel_rfl, Nat.zero_le _⟩
    · rintro ⟨⟨x, y⟩, hg, hx, hy, hxl, hyl⟩
      simp only at hg hx hy hxl hyl
      refine SafeK.run (k := inside K35 0) hmix GR5_ok [7, 10] 400 (T := Tree.ex (fun (x : List Nat) => eqL [AV.sl (List.length y) (1 : Nat) (natG IntKind.i64 y)] [AV.sl (List.length x) (1 : Nat) (natG IntKind.i64 x)] ∧ Ten.dig x ∧ List.length x < (4611686018427387904 : Nat)) fun (n : List Nat) => Tree.all (fun (r : Bool) => r = decide (Ten.val n = (0 : Nat))) fun (n : Bool) => Tree.ite (!n) (Tree.ex (fun (x_1 : List Nat × List Nat) => eqL [AV.sl (List.length x) (1 : Nat) (natG IntKind.i64 x), AV.sl (List.length y) (1 : Nat) (natG IntKind.i64 y)] [AV.sl (List.length (Prod.fst x_1)) (1 : Nat) (natG IntKind.i64 (Prod.fst x_1)), AV.sl (List.length (Prod.snd x_1)) (1 : Nat) (natG IntKind.i64 (Prod.snd x_1))] ∧ Ten.dig (Prod.fst x_1) ∧ Ten.dig (Prod.snd x_1) ∧ List.length (Prod.fst x_1) < (274877906944 : Nat) ∧ List.length (Prod.snd x_1) < (274877906944 : Nat) ∧ (0 : Nat) < Ten.val (Prod.snd x_1)) fun (n : List Nat × List Nat) => Tree.all (fun (r : List Nat × List Nat) => List.length (Prod.fst r) = List.length (Prod.fst n) ∧ Ten.dig (Prod.fst r) ∧ Ten.val (Prod.fst r) = Ten.val (Prod.fst n) / Ten.val (Prod.snd n) ∧ List.length (Prod.snd r) ≤ List.length (Prod.fst n) ∧ Ten.dig (Prod.snd r) ∧ Ten.val (Prod.snd r) = Ten.val (Prod.fst n) % Ten.val (Prod.snd n)) fun (n : List Nat × List Nat) => Tree.leaf (Leaf2.back (0 : Nat) [((7 : Nat), AV.sl (List.length y) (1 : Nat) (natG IntKind.i64 y)), ((10 : Nat), AV.sl (List.length (Prod.snd n)) (1 : Nat) (natG IntKind.i64 (Prod.snd n)))] [])) (Tree.ex (fun (x_1 : List Nat × Bool) => eqL [AV.sl (List.length x) (1 : Nat) (natG IntKind.i64 x), AV.bool false] [AV.sl (List.length (Prod.fst x_1)) (1 : Nat) (natG IntKind.i64 (Prod.fst x_1)), AV.bool (Prod.snd x_1)] ∧ Ten.dig (Prod.fst x_1) ∧ List.length (Prod.fst x_1) < (1099511627776 : Nat)) fun (n : List Nat × Bool) => Tree.all (fun (r : List UInt8) => r = textR (Prod.snd n) (Ten.val (Prod.fst n))) fun (n : List UInt8) => Tree.leaf (Leaf2.ret [AV.str n, AV.int IntKind.i64 (0 : Int)] []))) (by kernel_rfl) ?_
      simp only [Tree.holds, Leafs2, inR, lo, hi]
      refine ⟨y, ⟨by simp [eqG_refl], hy, by omega⟩, ⟨_, rfl⟩, ?_⟩
      rintro _ rfl
      refine ⟨fun h0 => ?_, fun h0 => ?_⟩
      · have hy0 : 0 < Ten.val y := by
          rcases Nat.eq_zero_or_pos (Ten.val y) with h | h
          · rw [h] at h0; simp at h0
          · exact h
        refine ⟨(x, y), ⟨by simp [eqG_refl], hx, hy, by simp only; omega, by simp only; omega, hy0⟩, ?_, ?_⟩
        · obtain ⟨g1, g2, g3⟩ := decs_ex hx (Nat.div_le_self (Ten.val x) (Ten.val y))
          obtain ⟨g4, g5, g6⟩ := decs_ex hx (Nat.mod_le (Ten.val x) (Ten.val y))
          exact ⟨(_, _), g1, g2, g3, Nat.le_of_eq g4, g5, g6⟩
        rintro ⟨q, r⟩ ⟨g1, g2, g3, g4, g5, g6⟩
        simp only at g1 g2 g3 g4 g5 g6
        simp only
        rw [if_pos trivial]
        refine ⟨⟨(y, r), ?_, hy, g5, hyl, Nat.le_trans g4 hxl⟩, ?_, by simp [SRg, natS, eqG_refl], by simp, by kernel_rfl, Nat.zero_le _⟩
        · show Nat.gcd (Ten.val y) (Ten.val r) = _
          rw [g6, ← hg, Nat.gcd_comm (Ten.val x), Nat.gcd_rec (Ten.val y) (Ten.val x), Nat.gcd_comm]
        · show Ten.val r < Ten.val y
          rw [g6]; exact Nat.mod_lt _ hy0
      · have hy0 : Ten.val y = 0 := by
          refine Decidable.byContradiction fun h => ?_
          rw [decide_eq_false h] at h0; simp at h0
        refine ⟨(x, false), ⟨by simp [eqG_refl], hx, by simp only; omega⟩, ⟨_, rfl⟩, ?_⟩
        rintro _ rfl
        rw [hy0, Nat.gcd_zero_right] at hg
        rw [← hg] at hq
        exact RetR.scal hq rfl (by simp [resV])
end Go.Proofs.Tryd
end

/- The library's search for a byte, and what it means for the contracts. -/
section
set_option linter.unusedVariables false
set_option linter.unusedSimpArgs false
namespace Go.Proofs
set_option maxHeartbeats 1000000 in
set_option maxRecDepth 100000 in
theorem Tryd.sxIndexByte (s : ByteArray) (c : Int) (w : World) :
    Calls Tryd.prog 63 #[.string s, .int .u8 c] w fun e w' => e = .returned (.int .i64 (Lib.indexByte s.data.toList c.toNat.toUInt8)) ∧ w' = w := by
  go_enter Tryd.func63, Tryd.ntmps63
  go_wp2
  rw [run_callFunc_extern Tryd.func68 (by kernel_rfl) (by kernel_rfl) (by kernel_rfl) (e := Extern.BytealgIndexByte.indexByte) (by kernel_rfl), Lib.run_indexByteString]
  simp only [Result.andThen]
  rw [Oper.upon_value]
  go_wp2
  go_ret
  exact ⟨rfl, rfl⟩
set_option maxHeartbeats 2000000 in
set_option maxRecDepth 100000 in
theorem Tryd.sxIndexOne (s : ByteArray) (c : UInt8) (w : World) :
    Calls Tryd.prog 61 #[.string s, .string ⟨#[c]⟩] w fun e w' => e = .returned (.int .i64 (Lib.indexByte s.data.toList c)) ∧ w' = w := by
  go_enter Tryd.func61, Tryd.ntmps61
  go_wp2_with (go_at_call 63; refine (Tryd.sxIndexByte _ _ _).mono ?_; rintro e w' ⟨rfl, rfl⟩)
  · have h : ([c] == s.toList) = true := by assumption
    go_ret
    refine ⟨?_, rfl⟩
    have e : s.data.toList = [c] := by rw [← Lib.toList_data]; exact (beq_iff_eq.1 h).symm
    rw [e]
    simp [Lib.indexByte]
  · go_ret
    exact ⟨rfl, rfl⟩
end Go.Proofs
end

/- Rationals: splitting and checking. -/
section
set_option linter.unusedVariables false
set_option linter.unusedSimpArgs false
set_option maxRecDepth 100000
open Go Go.Sx Go.Proofs Go.Nov
namespace Go.Proofs.Tryd
attribute [local simp] eqKV eqA eqA0 eqH eqB eqL eqL0
noncomputable def K51 : List Go.Sx.Item := [.code (Tryd.f51.body.getD .skip)]
noncomputable def K44 : List Go.Sx.Item := [.code (Tryd.f44.body.getD .skip)]
noncomputable def K36 : List Go.Sx.Item := [.code (Tryd.f36.body.getD .skip)]
noncomputable def K37 : List Go.Sx.Item := [.code (Tryd.f37.body.getD .skip)]
noncomputable def K30 : List Go.Sx.Item := [.code (Tryd.f30.body.getD .skip)]
noncomputable def K34 : List Go.Sx.Item := [.code (Tryd.f34.body.getD .skip)]
noncomputable def K32 : List Go.Sx.Item := [.code (Tryd.f32.body.getD .skip)]
noncomputable def K28 : List Go.Sx.Item := [.code (Tryd.f28.body.getD .skip)]

theorem indexByte_slash (s : List UInt8) : Lib.indexByte s 47 = if slashN s < s.length then (slashN s : Int) else -1 := by
  induction s with
  | nil => rfl
  | cons c s ih =>
    simp only [Lib.indexByte, slashN, List.findIdx_cons]
    cases h : (c == 47) with
    | true => simp
    | false =>
      simp only [Bool.false_eq_true, if_false, ih, cond_false, List.length_cons]
      show _ = if slashN s + 1 < s.length + 1 then ((slashN s + 1 : Nat) : Int) else -1
      by_cases h2 : slashN s < s.length
      · rw [if_pos h2, if_neg (by simp), if_pos (by omega)]; omega
      · rw [if_neg h2, if_pos (by rfl), if_neg (by omega)]
def indexC : Ctr := ctrP true (fun s : List UInt8 => [.str s, .str [47]]) (fun s => True) (fun s r => r = if slashN s < s.length then (slashN s : Int) else -1) (fun _ (r : Int) => (.int .i64 r, []))
theorem index_ok : CtrOK Tryd.prog 61 indexC := by
  intro args hc Q hq _
  simp only [indexC, ctrP] at hq
  split at hq
  · obtain ⟨s, ⟨h1, _⟩, _, h3⟩ := hq
    have hq := h3 _ rfl
    simp only [Tree.holds] at hq
    refine CtrAt.le h1 ?_
    intro O w σ vals hg hh hr
    simp only [RepL, Rep] at hr
    obtain ⟨v1, r1, rfl, rfl, v2, r2, rfl, rfl, rfl⟩ := hr
    refine .inl ⟨enters_of Tryd.func61 (by kernel_rfl) rfl .., ?_⟩
    refine (Tryd.sxIndexOne ⟨s.toArray⟩ 47 w).mono ?_
    rintro e w' ⟨rfl, rfl⟩
    have hx := indexByte_slash s
    have h0 : σ = [] := List.length_eq_zero_iff.1 hh.len
    subst h0
    refine ⟨_, rfl, _, [], [], hq, ?_, ⟨rfl, fun i j e f a b h => by simp at h, fun i e a h => by simp at h, fun i e b h => by simp at h⟩, hg, Nat.le_refl _, Hold.refl _ _ _, Ext.refl _ _⟩
    simp only [Rep]
    rw [← hx]
  · exact hq.elim
def cutC : Ctr := ctrP true (fun s : List UInt8 => [.str s, .str [47]]) (fun s => s.length < 2 ^ 62) (fun s r => r = cutR s) (fun _ r => (.tup [.str r.1, .str r.2.1, .bool r.2.2], []))
def GC1 : Nat → Option Ctr := fun f => if f = 61 then some (indexC) else none
theorem GC1_ok : ∀ g c, GC1 g = some c → CtrOK Tryd.prog g c := by
  intro g c h
  unfold GC1 at h
  by_cases hg : g = 61
  · subst hg
    rw [if_pos rfl] at h
    cases h
    exact index_ok
  rw [if_neg hg] at h
  clear hg
  cases h

theorem scut_ok : CtrOK Tryd.prog 51 cutC := by
  refine fn_ctrP (fn := Tryd.f51) (c := Tryd.f51.body.getD .skip) rfl rfl rfl fun s hs O w0 Q hq => ?_
  replace hq := hq _ rfl
  refine SafeK.run (k := K51) hmix GC1_ok [] 400 (T := Tree.ex (fun (x : List UInt8) => eqL [AV.str s, AV.str [(47 : UInt8)]] [AV.str x, AV.str [(47 : UInt8)]] ∧ True) fun (n : List UInt8) => Tree.all (fun (r : Int) => r = if slashN n < List.length n then (↑(slashN n) : Int) else (-1 : Int)) fun (n : Int) => Tree.ite (decide ((0 : Int) ≤ n)) (Tree.side ((0 : Int) ≤ n ∧ n ≤ (↑(List.length s) : Int)) (Tree.side (inR IntKind.i64 (n + (1 : Int))) (Tree.side ((0 : Int) ≤ n + (1 : Int) ∧ n + (1 : Int) ≤ (↑(List.length s) : Int)) (Tree.leaf (Leaf2.ret [AV.str (List.drop (0 : Nat) (List.take (Int.toNat n) s)), AV.str (List.drop (Int.toNat (n + (1 : Int))) (List.take (List.length s) s)), AV.bool true] []))))) (Tree.leaf (Leaf2.ret [AV.str s, AV.str (Array.toList #[]), AV.bool false] []))) (by kernel_rfl) ?_
  simp only [Tree.holds, Leafs2, inR, lo, hi]
  refine ⟨s, ⟨by simp, trivial⟩, ⟨_, rfl⟩, ?_⟩
  rintro _ rfl
  by_cases h : slashN s < s.length
  · simp only [if_pos h]
    rw [cut_yes h] at hq
    refine ⟨fun _ => ⟨by omega, fun _ => ⟨by omega, fun _ => ⟨by omega, fun _ => ?_⟩⟩⟩, fun hn => ?_⟩
    · refine RetR.scal hq rfl ?_
      simp [resV]
    · have := of_decide_eq_false hn; omega
  · simp only [if_neg h]
    rw [cut_no h] at hq
    refine ⟨fun hn => ?_, fun _ => RetR.scal hq rfl (by simp [resV])⟩
    have := of_decide_eq_true hn; omega
def GC2 : Nat → Option Ctr := fun f => if f = 51 then some (cutC) else none
theorem GC2_ok : ∀ g c, GC2 g = some c → CtrOK Tryd.prog g c := by
  intro g c h
  unfold GC2 at h
  by_cases hg : g = 51
  · subst hg
    rw [if_pos rfl] at h
    cases h
    exact scut_ok
  rw [if_neg hg] at h
  clear hg
  cases h

theorem cut_ok : CtrOK Tryd.prog 44 cutC := by
  refine fn_ctrP (fn := Tryd.f44) (c := Tryd.f44.body.getD .skip) rfl rfl rfl fun s hs O w0 Q hq => ?_
  replace hq := hq _ rfl
  refine SafeK.run (k := K44) hmix GC2_ok [] 400 (T := Tree.ex (fun (x : List UInt8) => eqL [AV.str s, AV.str [(47 : UInt8)]] [AV.str x, AV.str [(47 : UInt8)]] ∧ List.length x < (4611686018427387904 : Nat)) fun (n : List UInt8) => Tree.all (fun (r : List UInt8 × List UInt8 × Bool) => r = cutR n) fun (n : List UInt8 × List UInt8 × Bool) => Tree.leaf (Leaf2.ret [AV.str (Prod.fst n), AV.str (Prod.fst (Prod.snd n)), AV.bool (Prod.snd (Prod.snd n))] [])) (by kernel_rfl) ?_
  simp only [Tree.holds, Leafs2, inR, lo, hi]
  refine ⟨s, ⟨by simp, hs⟩, ⟨_, rfl⟩, ?_⟩
  rintro _ rfl
  exact RetR.scal hq rfl (by simp [resV])
def splitC : Ctr := ctrP true (fun s : List UInt8 => [.str s]) (fun s => s.length < 2 ^ 62) (fun s r => r = cutR s) (fun _ r => (.tup [.str r.1, .str r.2.1, .bool r.2.2], []))
def GC3 : Nat → Option Ctr := fun f => if f = 44 then some (cutC) else if f = 38 then some (checkC) else none
theorem GC3_ok : ∀ g c, GC3 g = some c → CtrOK Tryd.prog g c := by
  intro g c h
  unfold GC3 at h
  by_cases hg : g = 44
  · subst hg
    rw [if_pos rfl] at h
    cases h
    exact cut_ok
  rw [if_neg hg] at h
  clear hg
  by_cases hg : g = 38
  · subst hg
    rw [if_pos rfl] at h
    cases h
    exact check_ok
  rw [if_neg hg] at h
  clear hg
  cases h

theorem split_ok : CtrOK Tryd.prog 36 splitC := by
  refine fn_ctrP (fn := Tryd.f36) (c := Tryd.f36.body.getD .skip) rfl rfl rfl fun s hs O w0 Q hq => ?_
  replace hq := hq _ rfl
  refine SafeK.run (k := K36) hmix GC3_ok [] 400 (T := Tree.ex (fun (x : List UInt8) => eqL [AV.str s, AV.str (Array.toList #[(47 : UInt8)])] [AV.str x, AV.str [(47 : UInt8)]] ∧ List.length x < (4611686018427387904 : Nat)) fun (n : List UInt8) => Tree.all (fun (r : List UInt8 × List UInt8 × Bool) => r = cutR n) fun (n : List UInt8 × List UInt8 × Bool) => Tree.leaf (Leaf2.ret [AV.str (Prod.fst n), AV.str (Prod.fst (Prod.snd n)), AV.bool (Prod.snd (Prod.snd n))] [])) (by kernel_rfl) ?_
  simp only [Tree.holds, Leafs2, inR, lo, hi]
  refine ⟨s, ⟨by simp, hs⟩, ⟨_, rfl⟩, ?_⟩
  rintro _ rfl
  exact RetR.scal hq rfl (by simp [resV])
def formC : Ctr := ctrP true (fun s : List UInt8 => [.str s]) (fun s => s.length < 2 ^ 62) (fun s r => r = if errI s = 12 then 12 else 0) (fun _ (r : Int) => (.int .i64 r, []))
theorem form_ok : CtrOK Tryd.prog 37 formC := by
  refine fn_ctrP (fn := Tryd.f37) (c := Tryd.f37.body.getD .skip) rfl rfl rfl fun s hs O w0 Q hq => ?_
  replace hq := hq _ rfl
  refine SafeK.run (k := K37) hmix GC3_ok [] 400 (T := Tree.ex (fun (x : List UInt8) => eqL [AV.str s] [AV.str x] ∧ List.length x < (4611686018427387904 : Nat)) fun (n : List UInt8) => Tree.all (fun (r : Int) => r = errI n) fun (n : Int) => Tree.ite (!decide (n = (14 : Int))) (Tree.leaf (Leaf2.ret [AV.int IntKind.i64 n] [])) (Tree.leaf (Leaf2.ret [AV.int IntKind.i64 (0 : Int)] []))) (by kernel_rfl) ?_
  simp only [Tree.holds, Leafs2, inR, lo, hi]
  refine ⟨s, ⟨by simp, hs⟩, ⟨_, rfl⟩, ?_⟩
  rintro _ rfl
  rcases errI_cases s with h | h | h <;> simp only [h] at hq ⊢
  all_goals
    refine ⟨fun h => ?_, fun h => ?_⟩
    all_goals first
      | (exfalso; revert h; decide)
      | exact RetR.scal hq rfl (by simp [resV])
def qcheckC : Ctr := ctrP true (fun s : List UInt8 => [.str s]) (fun s => s.length < 2 ^ 62) (fun s r => r = errR s) (fun _ (r : Int) => (.int .i64 r, []))
def GC4 : Nat → Option Ctr := fun f => if f = 36 then some (splitC) else if f = 37 then some (formC) else if f = 38 then some (checkC) else if f = 39 then some (gcdC) else none
theorem GC4_ok : ∀ g c, GC4 g = some c → CtrOK Tryd.prog g c := by
  intro g c h
  unfold GC4 at h
  by_cases hg : g = 36
  · subst hg
    rw [if_pos rfl] at h
    cases h
    exact split_ok
  rw [if_neg hg] at h
  clear hg
  by_cases hg : g = 37
  · subst hg
    rw [if_pos rfl] at h
    cases h
    exact form_ok
  rw [if_neg hg] at h
  clear hg
  by_cases hg : g = 38
  · subst hg
    rw [if_pos rfl] at h
    cases h
    exact check_ok
  rw [if_neg hg] at h
  clear hg
  by_cases hg : g = 39
  · subst hg
    rw [if_pos rfl] at h
    cases h
    exact gcd_ok
  rw [if_neg hg] at h
  clear hg
  cases h

theorem qcheck_ok : CtrOK Tryd.prog 30 qcheckC := by
  refine fn_ctrP (fn := Tryd.f30) (c := Tryd.f30.body.getD .skip) rfl rfl rfl fun s hs O w0 Q hq => ?_
  replace hq := hq _ rfl
  refine SafeK.run (k := K30) hmix GC4_ok [] 400 (T := Tree.ex (fun (x : List UInt8) => eqL [AV.str s] [AV.str x] ∧ List.length x < (4611686018427387904 : Nat)) fun (n : List UInt8) => Tree.all (fun (r : List UInt8 × List UInt8 × Bool) => r = cutR n) fun (n : List UInt8 × List UInt8 × Bool) => Tree.ex (fun (x : List UInt8) => eqL [AV.str (Prod.fst n)] [AV.str x] ∧ List.length x < (4611686018427387904 : Nat)) fun (n_1 : List UInt8) => Tree.all (fun (r : Int) => r = if errI n_1 = (12 : Int) then (12 : Int) else (0 : Int)) fun (n_2 : Int) => Tree.ex (fun (x : List UInt8) => (!decide (n_2 = (0 : Int))) = false ∧ Prod.snd (Prod.snd n) = true → eqL [AV.str (Prod.fst (Prod.snd n))] [AV.str x] ∧ List.length x < (4611686018427387904 : Nat)) fun (n_3 : List UInt8) => Tree.all (fun (x : Int) => (!decide (n_2 = (0 : Int))) = false ∧ Prod.snd (Prod.snd n) = true → x = if errI n_3 = (12 : Int) then (12 : Int) else (0 : Int)) fun (n_4 : Int) => Tree.side (((!decide (n_2 = (0 : Int))) = false ∧ Prod.snd (Prod.snd n) = true) ∧ (!decide (n_4 = (0 : Int))) = false → (0 : Int) ≤ (0 : Int) ∧ (0 : Int) < (↑(List.length (Prod.fst (Prod.snd n))) : Int)) (Tree.ite (bif !decide (n_2 = (0 : Int)) then true else bif Prod.snd (Prod.snd n) then bif bif bif !decide (n_4 = (0 : Int)) then true else decide ((↑(UInt8.toNat (List.getD (Prod.fst (Prod.snd n)) (0 : Nat) (0 : UInt8))) : Int) = (45 : Int)) then true else decide (Prod.fst (Prod.snd n) = Array.toList #[(48 : UInt8)]) then true else decide (Prod.fst (Prod.snd n) = Array.toList #[(49 : UInt8)]) else false) (Tree.leaf (Leaf2.ret [AV.int IntKind.i64 (12 : Int)] [])) (Tree.ex (fun (x : List UInt8) => eqL [AV.str (Prod.fst n)] [AV.str x] ∧ List.length x < (4611686018427387904 : Nat)) fun (n_5 : List UInt8) => Tree.all (fun (r : Int) => r = errI n_5) fun (n_6 : Int) => Tree.ex (fun (x : List UInt8) => (!decide (n_6 = (0 : Int))) = false ∧ Prod.snd (Prod.snd n) = true → eqL [AV.str (Prod.fst (Prod.snd n))] [AV.str x] ∧ List.length x < (4611686018427387904 : Nat)) fun (n_7 : List UInt8) => Tree.all (fun (x : Int) => (!decide (n_6 = (0 : Int))) = false ∧ Prod.snd (Prod.snd n) = true → x = errI n_7) fun (n_8 : Int) => Tree.ite (bif !decide (n_6 = (0 : Int)) then true else bif Prod.snd (Prod.snd n) then !decide (n_8 = (0 : Int)) else false) (Tree.leaf (Leaf2.ret [AV.int IntKind.i64 (14 : Int)] [])) (Tree.ite (Prod.snd (Prod.snd n)) (Tree.ex (fun (x : List UInt8 × List UInt8) => eqL [AV.str (Prod.fst n), AV.str (Prod.fst (Prod.snd n))] [AV.str (Prod.fst x), AV.str (Prod.snd x)] ∧ List.length (Prod.fst x) < (4611686018427387904 : Nat) ∧ List.length (Prod.snd x) < (4611686018427387904 : Nat)) fun (n : List UInt8 × List UInt8) => Tree.all (fun (r : List UInt8 × Int) => r = gcdR (Prod.fst n) (Prod.snd n)) fun (n : List UInt8 × Int) => Tree.ite (!decide (Prod.fst n = Array.toList #[(49 : UInt8)])) (Tree.leaf (Leaf2.ret [AV.int IntKind.i64 (12 : Int)] [])) (Tree.leaf (Leaf2.ret [AV.int IntKind.i64 (0 : Int)] []))) (Tree.leaf (Leaf2.ret [AV.int IntKind.i64 (0 : Int)] [])))))) (by kernel_rfl) ?_
  simp only [Tree.holds, Leafs2, inR, lo, hi]
  refine ⟨s, ⟨by simp, hs⟩, ⟨_, rfl⟩, ?_⟩
  rintro _ rfl
  have hlen := cut_len s
  have hno : (cutR s).2.2 = false → (cutR s).1 = s := by
    intro h
    unfold cutR at h ⊢
    split at h
    · cases h
    · rename_i hn; rw [if_neg hn]
  simp only [errR] at hq
  generalize cutR s = c at hq hlen hno ⊢
  obtain ⟨n, d, f⟩ := c
  simp only at hq hlen hno ⊢
  refine ⟨n, ⟨by simp, by omega⟩, ⟨_, rfl⟩, ?_⟩
  rintro _ rfl
  refine ⟨d, fun _ => ⟨by simp, by omega⟩, ⟨_, fun _ => rfl⟩, ?_⟩
  intro fd hfd
  cases f with
  | false =>
    have hn := hno rfl
    subst hn
    rw [if_neg (by decide)] at hq
    refine ⟨fun h => by simp at h, fun _ => ⟨fun h => ?_, fun h => ?_⟩⟩
    · rcases errI_cases n with e | e | e <;> rw [e] at hq h
      · simp at h
      · exact RetR.scal hq rfl (by simp [resV])
      · simp at h
    · have hn12 : errI n ≠ 12 := by
        intro e; rw [e] at h; simp at h
      refine ⟨n, ⟨by simp, by omega⟩, ⟨_, rfl⟩, ?_⟩
      rintro _ rfl
      refine ⟨d, fun _ => ⟨by simp, by omega⟩, ⟨_, fun _ => rfl⟩, ?_⟩
      intro fd2 _
      refine ⟨fun h => ?_, fun h => ⟨fun h => (by cases h), fun _ => ?_⟩⟩
      · rcases errI_cases n with e | e | e
        · rw [e] at h; simp at h
        · exact absurd e hn12
        · rw [e] at hq; exact RetR.scal hq rfl (by simp [resV])
      · rcases errI_cases n with e | e | e
        · rw [e] at hq; exact RetR.scal hq rfl (by simp [resV])
        · exact absurd e hn12
        · rw [e] at h; simp at h
  | true =>
    rw [if_pos rfl] at hq
    by_cases hn : errI n = 12
    · rw [if_pos (.inl hn)] at hq
      simp only [hn]
      refine ⟨fun h => by simp at h, fun _ => ⟨fun _ => RetR.scal hq rfl (by simp [resV]), fun h => by simp at h⟩⟩
    · rw [if_neg hn] at hfd ⊢
      have hfd := hfd ⟨by simp, rfl⟩
      subst hfd
      by_cases hd : errI d = 12
      · rw [if_pos (.inr (.inl hd))] at hq
        rw [if_pos hd]
        refine ⟨fun h => by simp at h, fun _ => ⟨fun _ => RetR.scal hq rfl (by simp [resV]), fun h => by simp at h⟩⟩
      · rw [if_neg hd]
        have hd0 : d ≠ [] := by rintro rfl; exact hd errI_nil
        have hneg := parse_neg hd0
        have hneg2 : decide (((d.getD 0 0).toNat : Int) = 45) = negI d := by
          rw [hneg]
          by_cases h : d.getD 0 0 = 45
          · rw [h]; rfl
          · rw [decide_eq_false h]
            refine decide_eq_false fun h2 => h (u8_eq ?_)
            rw [h2]; rfl
        rw [hneg2]
        refine ⟨fun _ => by have := List.length_pos_iff.2 hd0; omega, fun _ => ⟨fun h => ?_, fun h => ?_⟩⟩
        · have : negI d = true ∨ d = [48] ∨ d = [49] := by
            revert h
            cases negI d <;> simp
          rw [if_pos (.inr (.inr this))] at hq
          exact RetR.scal hq rfl (by simp [resV])
        · have : ¬ (errI n = 12 ∨ errI d = 12 ∨ negI d = true ∨ d = [48] ∨ d = [49]) := by
            revert h
            cases negI d <;> simp [hn, hd]
          rw [if_neg this] at hq
          refine ⟨n, ⟨by simp, by omega⟩, ⟨_, rfl⟩, ?_⟩
          rintro _ rfl
          refine ⟨d, fun _ => ⟨by simp, by omega⟩, ⟨_, fun _ => rfl⟩, ?_⟩
          intro ed hed
          by_cases hn0 : errI n = 0
          · have hed := hed ⟨by simp [hn0], rfl⟩
            subst hed
            by_cases hd0 : errI d = 0
            · rw [if_neg (by simp [hn0, hd0])] at hq
              refine ⟨fun h => by simp [hn0, hd0] at h, fun _ => ⟨fun _ => ?_, fun h => by cases h⟩⟩
              refine ⟨(n, d), ⟨by simp, by simp only; omega, by simp only; omega⟩, ⟨_, rfl⟩, ?_⟩
              rintro _ rfl
              refine ⟨fun h => ?_, fun h => ?_⟩
              · rw [if_pos (by simpa using h)] at hq
                exact RetR.scal hq rfl (by simp [resV])
              · rw [if_neg (by simpa using h)] at hq
                exact RetR.scal hq rfl (by simp [resV])
            · rw [if_pos (.inr hd0)] at hq
              refine ⟨fun _ => RetR.scal hq rfl (by simp [resV]), fun h => by simp [hn0, hd0] at h⟩
          · rw [if_pos (.inl hn0)] at hq
            refine ⟨fun _ => RetR.scal hq rfl (by simp [resV]), fun h => by simp [hn0] at h⟩

def slashC : Ctr := ctrP true (fun s : List UInt8 => [.str s]) (fun s => s.length < 2 ^ 62) (fun s r => r = if slashN s < s.length then (slashN s : Int) else -1) (fun _ (r : Int) => (.int .i64 r, []))
def SSl (s : List UInt8) (i : Nat) : KV := [(0, .str s), (3, .int .i64 (i : Int))]
theorem slash_ok : CtrOK Tryd.prog 34 slashC := by
  refine fn_ctrP (fn := Tryd.f34) (c := Tryd.f34.body.getD .skip) rfl rfl rfl fun s hs O w0 Q hq => ?_
  replace hq := hq _ rfl
  refine SafeK.run (k := K34) hmix noG_ok [0, 3] 400 (T := Tree.leaf (Leaf2.loop (Prod.fst (lps K34 (0 : Nat))) (Prod.snd (lps K34 (0 : Nat))) [((0 : Nat), AV.str s), ((3 : Nat), AV.int IntKind.i64 (0 : Int))] [])) (by kernel_rfl) ?_
  simp only [Tree.holds, Leafs2, inR, lo, hi]
  refine SafeK.loop (ι := {i : Nat // i ≤ s.length ∧ ∀ j, j < i → s.getD j 0 ≠ 47}) (fun i => SSl s i.1) (fun _ => []) (fun i => s.length - i.1) ⟨0, Nat.zero_le _, fun j hj => by omega⟩ 0 ?_ ?_ (by kernel_rfl)
  · exact ⟨by simp [SSl], by simp, by kernel_rfl, Nat.zero_le _⟩
  · rintro ⟨i, hil, hib⟩
    refine SafeK.run (k := inside K34 0) hmix noG_ok [0, 3] 400 (T := Tree.ite (decide ((↑i : Int) < (↑(List.length s) : Int))) (Tree.side ((0 : Int) ≤ (↑i : Int) ∧ (↑i : Int) < (↑(List.length s) : Int)) (Tree.ite (decide ((↑(UInt8.toNat (List.getD s (Int.toNat (↑i : Int)) (0 : UInt8))) : Int) = (47 : Int))) (Tree.leaf (Leaf2.ret [AV.int IntKind.i64 (↑i : Int)] [])) (Tree.side (inR IntKind.i64 ((↑i : Int) + (1 : Int))) (Tree.leaf (Leaf2.back (0 : Nat) [((0 : Nat), AV.str s), ((3 : Nat), AV.int IntKind.i64 ((↑i : Int) + (1 : Int)))] []))))) (Tree.leaf (Leaf2.ret [AV.int IntKind.i64 (-1 : Int)] []))) (by kernel_rfl) ?_
    simp only [Tree.holds, Leafs2, inR, lo, hi, Int.toNat_natCast]
    refine ⟨fun hlt => ?_, fun hge => ?_⟩
    · have hlt : i < s.length := by have := of_decide_eq_true hlt; omega
      refine ⟨by omega, fun _ => ⟨fun h => ?_, fun h => ⟨by omega, fun _ => ?_⟩⟩⟩
      · have h : s.getD i 0 = 47 := u8_eq (of_decide_eq_true h)
        have e := slash_is hlt h hib
        rw [if_pos (by omega), e] at hq
        exact RetR.scal hq rfl (by simp [resV])
      · have h : s.getD i 0 ≠ 47 := by
          intro h2
          exact of_decide_eq_false h (by rw [h2]; rfl)
        rw [if_pos trivial]
        refine ⟨⟨i + 1, hlt, fun j hj => ?_⟩, by show s.length - (i + 1) < s.length - i; omega, by simp [SSl], by simp, by kernel_rfl, Nat.zero_le _⟩
        rcases Nat.lt_or_ge j i with h1 | h1
        · exact hib j h1
        · have : j = i := by omega
          rw [this]; exact h
    · have hge : i = s.length := by have := of_decide_eq_false hge; omega
      subst hge
      have e := slash_none hib
      rw [if_neg (by omega)] at hq
      exact RetR.scal hq rfl (by simp [resV])
def writtenC : Ctr := ctrP true (fun s : List UInt8 => [.str s]) (fun s => s.length < 2 ^ 62) (fun s r => r = ((cutR s).1, if (cutR s).2.2 then (cutR s).2.1 else [49])) (fun _ r => (.tup [.str r.1, .str r.2], []))
def GQ1 : Nat → Option Ctr := fun f => if f = 34 then some (slashC) else none
theorem GQ1_ok : ∀ g c, GQ1 g = some c → CtrOK Tryd.prog g c := by
  intro g c h
  unfold GQ1 at h
  by_cases hg : g = 34
  · subst hg
    rw [if_pos rfl] at h
    cases h
    exact slash_ok
  rw [if_neg hg] at h
  clear hg
  cases h

theorem written_ok : CtrOK Tryd.prog 32 writtenC := by
  refine fn_ctrP (fn := Tryd.f32) (c := Tryd.f32.body.getD .skip) rfl rfl rfl fun s hs O w0 Q hq => ?_
  replace hq := hq _ rfl
  refine SafeK.run (k := K32) hmix GQ1_ok [] 400 (T := Tree.ex (fun (x : List UInt8) => eqL [AV.str s] [AV.str x] ∧ List.length x < (4611686018427387904 : Nat)) fun (n : List UInt8) => Tree.all (fun (r : Int) => r = if slashN n < List.length n then (↑(slashN n) : Int) else (-1 : Int)) fun (n : Int) => Tree.ite (decide (n < (0 : Int))) (Tree.leaf (Leaf2.ret [AV.str s, AV.str (Array.toList #[(49 : UInt8)])] [])) (Tree.side ((0 : Int) ≤ n ∧ n ≤ (↑(List.length s) : Int)) (Tree.side (inR IntKind.i64 (n + (1 : Int))) (Tree.side ((0 : Int) ≤ n + (1 : Int) ∧ n + (1 : Int) ≤ (↑(List.length s) : Int)) (Tree.leaf (Leaf2.ret [AV.str (List.drop (0 : Nat) (List.take (Int.toNat n) s)), AV.str (List.drop (Int.toNat (n + (1 : Int))) (List.take (List.length s) s))] [])))))) (by kernel_rfl) ?_
  simp only [Tree.holds, Leafs2, inR, lo, hi]
  refine ⟨s, ⟨by simp, hs⟩, ⟨_, rfl⟩, ?_⟩
  rintro _ rfl
  by_cases h : slashN s < s.length
  · simp only [if_pos h]
    rw [cut_yes h] at hq
    refine ⟨fun hn => ?_, fun hn => ?_⟩
    · have := of_decide_eq_true hn; omega
    · refine ⟨by omega, fun _ => ⟨by omega, fun _ => ⟨by omega, fun _ => ?_⟩⟩⟩
      exact RetR.scal hq rfl (by simp [resV])
  · simp only [if_neg h]
    rw [cut_no h] at hq
    refine ⟨fun hn => RetR.scal hq rfl (by simp [resV]), fun hn => ?_⟩
    have := of_decide_eq_false hn; omega
def qrcheckC : Ctr := ctrP true (fun s : List UInt8 => [.str s]) (fun s => s.length < 2 ^ 40) (fun s r => r = errR s) (fun _ (r : Int) => (.int .i64 r, []))
def GQ2 : Nat → Option Ctr := fun f => if f = 34 then some (slashC) else if f = 32 then some (writtenC) else if f = 33 then some (digitsC) else if f = 35 then some (rgcdC) else none
theorem GQ2_ok : ∀ g c, GQ2 g = some c → CtrOK Tryd.prog g c := by
  intro g c h
  unfold GQ2 at h
  by_cases hg : g = 34
  · subst hg
    rw [if_pos rfl] at h
    cases h
    exact slash_ok
  rw [if_neg hg] at h
  clear hg
  by_cases hg : g = 32
  · subst hg
    rw [if_pos rfl] at h
    cases h
    exact written_ok
  rw [if_neg hg] at h
  clear hg
  by_cases hg : g = 33
  · subst hg
    rw [if_pos rfl] at h
    cases h
    exact digits_ok
  rw [if_neg hg] at h
  clear hg
  by_cases hg : g = 35
  · subst hg
    rw [if_pos rfl] at h
    cases h
    exact rgcd_ok
  rw [if_neg hg] at h
  clear hg
  cases h

theorem qrcheck_ok : CtrOK Tryd.prog 28 qrcheckC := by
  refine fn_ctrP (fn := Tryd.f28) (c := Tryd.f28.body.getD .skip) rfl rfl rfl fun s hs O w0 Q hq => ?_
  replace hq := hq _ rfl
  refine SafeK.run (k := K28) hmix GQ2_ok [] 400 (T := Tree.ex (fun (x : List UInt8) => eqL [AV.str s] [AV.str x] ∧ List.length x < (4611686018427387904 : Nat)) fun (n : List UInt8) => Tree.all (fun (r : List UInt8 × List UInt8) => r = (Prod.fst (cutR n), if Prod.snd (Prod.snd (cutR n)) = true then Prod.fst (Prod.snd (cutR n)) else [(49 : UInt8)])) fun (n : List UInt8 × List UInt8) => Tree.ex (fun (x : List UInt8) => eqL [AV.str (Prod.fst n)] [AV.str x] ∧ List.length x < (1099511627776 : Nat)) fun (n_1 : List UInt8) => Tree.all (fun (r : List Nat × Bool × Bool) => r = digR n_1) fun (n_2 : List Nat × Bool × Bool) => Tree.ex (fun (x : List UInt8) => eqL [AV.str (Prod.snd n)] [AV.str x] ∧ List.length x < (1099511627776 : Nat)) fun (n_3 : List UInt8) => Tree.all (fun (r : List Nat × Bool × Bool) => r = digR n_3) fun (n_4 : List Nat × Bool × Bool) => Tree.ex (fun (x : List UInt8) => (bif bif bif !Prod.snd (Prod.snd n_2) then true else !Prod.snd (Prod.snd n_4) then true else Prod.fst (Prod.snd n_4) then true else decide (Prod.snd n = Array.toList #[(48 : UInt8)])) = false → eqL [AV.str s] [AV.str x] ∧ List.length x < (4611686018427387904 : Nat)) fun (n_5 : List UInt8) => Tree.all (fun (x : Int) => (bif bif bif !Prod.snd (Prod.snd n_2) then true else !Prod.snd (Prod.snd n_4) then true else Prod.fst (Prod.snd n_4) then true else decide (Prod.snd n = Array.toList #[(48 : UInt8)])) = false → x = if slashN n_5 < List.length n_5 then (↑(slashN n_5) : Int) else (-1 : Int)) fun (n_6 : Int) => Tree.ite (bif bif bif bif !Prod.snd (Prod.snd n_2) then true else !Prod.snd (Prod.snd n_4) then true else Prod.fst (Prod.snd n_4) then true else decide (Prod.snd n = Array.toList #[(48 : UInt8)]) then true else bif decide ((0 : Int) ≤ n_6) then decide (Prod.snd n = Array.toList #[(49 : UInt8)]) else false) (Tree.leaf (Leaf2.ret [AV.int IntKind.i64 (12 : Int)] [])) (Tree.ite (bif decide ((1000 : Int) < (↑(List.length (Prod.fst n_2)) : Int)) then true else decide ((1000 : Int) < (↑(List.length (Prod.fst n_4)) : Int))) (Tree.leaf (Leaf2.ret [AV.int IntKind.i64 (14 : Int)] [])) (Tree.ex (fun (x : List UInt8 × List UInt8) => eqL [AV.str (Prod.fst n), AV.str (Prod.snd n)] [AV.str (Prod.fst x), AV.str (Prod.snd x)] ∧ List.length (Prod.fst x) < (1099511627776 : Nat) ∧ List.length (Prod.snd x) < (1099511627776 : Nat)) fun (n : List UInt8 × List UInt8) => Tree.all (fun (r : List UInt8 × Int) => r = gcdR (Prod.fst n) (Prod.snd n)) fun (n : List UInt8 × Int) => Tree.ex (fun (x : List UInt8) => eqL [AV.str s] [AV.str x] ∧ List.length x < (4611686018427387904 : Nat)) fun (n_7 : List UInt8) => Tree.all (fun (r : Int) => r = if slashN n_7 < List.length n_7 then (↑(slashN n_7) : Int) else (-1 : Int)) fun (n_8 : Int) => Tree.ite (bif decide ((0 : Int) ≤ n_8) then !decide (Prod.fst n = Array.toList #[(49 : UInt8)]) else false) (Tree.leaf (Leaf2.ret [AV.int IntKind.i64 (12 : Int)] [])) (Tree.leaf (Leaf2.ret [AV.int IntKind.i64 (0 : Int)] []))))) (by kernel_rfl) ?_
  simp only [Tree.holds, Leafs2, inR, lo, hi]
  refine ⟨s, ⟨by simp, by omega⟩, ⟨_, rfl⟩, ?_⟩
  rintro _ rfl
  have hlen := cut_len s
  have hfl := cut_flag s
  have hno : (cutR s).2.2 = false → (cutR s).1 = s := by
    intro h
    unfold cutR at h ⊢
    split at h
    · cases h
    · rename_i hn; rw [if_neg hn]
  simp only [errR] at hq
  generalize cutR s = c at hq hlen hfl hno ⊢
  obtain ⟨n, d, f⟩ := c
  simp only at hq hlen hfl hno ⊢
  obtain ⟨e, he⟩ : ∃ e, (if f = true then d else [49]) = e := ⟨_, rfl⟩
  have hel : e.length < 1099511627776 := by
    rw [← he]; split
    · omega
    · simp
  simp only [he]
  refine ⟨n, ⟨by simp, by omega⟩, ⟨_, rfl⟩, ?_⟩
  rintro _ rfl
  refine ⟨e, ⟨by simp, by omega⟩, ⟨_, rfl⟩, ?_⟩
  rintro _ rfl
  refine ⟨s, fun _ => ⟨by simp, by omega⟩, ⟨_, fun _ => rfl⟩, ?_⟩
  intro sv hsv
  rcases digR_cases n with ⟨hn1, hn2⟩ | ⟨hn1, ln, hn2, hn3⟩
  · have hq : Q (.int .i64 12, []) := by
      cases f with
      | false => rw [if_neg (by decide), ← hno rfl, hn1] at hq; exact hq
      | true => rw [if_pos rfl, if_pos (.inl hn1)] at hq; exact hq
    simp only [hn2]
    exact ⟨fun _ => RetR.scal hq rfl (by simp [resV]), fun h => by simp at h⟩
  rcases digR_cases e with ⟨he1, he2⟩ | ⟨he1, le, he2, he3⟩
  · have hq : Q (.int .i64 12, []) := by
      cases f with
      | false => rw [if_neg (by decide)] at he; subst he; exact absurd he1 (by decide)
      | true =>
        rw [if_pos rfl] at he; subst he
        rw [if_pos rfl, if_pos (.inr (.inl he1))] at hq; exact hq
    simp only [hn2, he2]
    exact ⟨fun _ => RetR.scal hq rfl (by simp [resV]), fun h => by simp at h⟩
  simp only [hn2, he2, Bool.not_true, cond_false] at hsv ⊢
  cases f with
  | false =>
    rw [if_neg (by decide)] at he hq
    subst he
    have hnn : negI [49] = false := by decide
    have h49 : errI [49] = 0 := by decide
    have hs := hno rfl
    subst hs
    simp only [hnn, cond_false] at hsv ⊢
    have hsv := hsv (by decide)
    rw [← hsv] at hfl
    rw [← hfl, hn3, he3, h49]
    refine ⟨fun h => by simp at h, fun _ => ⟨fun h => ?_, fun h => ?_⟩⟩
    · rcases errI_cases n with e | e | e
      · rw [e] at h; simp at h
      · exact absurd e hn1
      · rw [e] at hq; exact RetR.scal hq rfl (by simp [resV])
    · have h0 : errI n = 0 := by
        rcases errI_cases n with e | e | e
        · exact e
        · exact absurd e hn1
        · rw [e] at h; simp at h
      rw [h0] at hq
      refine ⟨(n, [49]), ⟨by simp, by simp only; omega, by simp⟩, ⟨_, rfl⟩, ?_⟩
      rintro _ rfl
      refine ⟨n, ⟨by simp, by omega⟩, ⟨_, rfl⟩, ?_⟩
      rintro _ rfl
      rw [← hsv, ← hfl]
      refine ⟨fun h => by simp at h, fun _ => RetR.scal hq rfl (by simp [resV])⟩
  | true =>
    rw [if_pos rfl] at he hq
    subst he
    cases hng : negI d with
    | true =>
      rw [if_pos (.inr (.inr (.inl hng)))] at hq
      exact ⟨fun _ => RetR.scal hq rfl (by simp [resV]), fun h => by simp at h⟩
    | false =>
      simp only [hng, cond_false] at hsv ⊢
      by_cases h48 : d = [48]
      · rw [if_pos (.inr (.inr (.inr (.inl h48))))] at hq
        rw [decide_eq_true h48]
        exact ⟨fun _ => RetR.scal hq rfl (by simp [resV]), fun h => by simp at h⟩
      · rw [decide_eq_false h48] at hsv ⊢
        have hsv := hsv rfl
        rw [← hsv] at hfl
        rw [← hfl]
        simp only [cond_false, cond_true]
        by_cases h49 : d = [49]
        · rw [if_pos (.inr (.inr (.inr (.inr h49))))] at hq
          rw [decide_eq_true h49]
          exact ⟨fun _ => RetR.scal hq rfl (by simp [resV]), fun h => by simp at h⟩
        · rw [decide_eq_false h49]
          rw [if_neg (by simp [hn1, he1, hng, h48, h49])] at hq
          refine ⟨fun h => (by cases h), fun _ => ?_⟩
          rw [hn3, he3]
          by_cases hn0 : errI n = 0
          · by_cases hd0 : errI d = 0
            · rw [if_neg (by simp [hn0, hd0])] at hq
              refine ⟨fun h => by simp [hn0, hd0] at h, fun _ => ?_⟩
              refine ⟨(n, d), ⟨by simp, by simp only; omega, by simp only; omega⟩, ⟨_, rfl⟩, ?_⟩
              rintro _ rfl
              refine ⟨s, ⟨by simp, by omega⟩, ⟨_, rfl⟩, ?_⟩
              rintro _ rfl
              rw [← hsv, ← hfl]
              refine ⟨fun h => ?_, fun h => ?_⟩
              · rw [if_pos (by simpa using h)] at hq
                exact RetR.scal hq rfl (by simp [resV])
              · rw [if_neg (by simpa using h)] at hq
                exact RetR.scal hq rfl (by simp [resV])
            · rw [if_pos (.inr hd0)] at hq
              refine ⟨fun _ => RetR.scal hq rfl (by simp [resV]), fun h => by simp [hn0, hd0] at h⟩
          · rw [if_pos (.inl hn0)] at hq
            refine ⟨fun _ => RetR.scal hq rfl (by simp [resV]), fun h => by simp [hn0] at h⟩
end Go.Proofs.Tryd
end

/- Names and days. -/
section
set_option linter.unusedVariables false
set_option linter.unusedSimpArgs false
set_option maxRecDepth 100000
open Go Go.Sx Go.Proofs Go.Nov
namespace Go.Proofs.Tryd
attribute [local simp] eqKV eqA eqA0 eqH eqB eqL eqL0
noncomputable def K31 : List Go.Sx.Item := [.code (Tryd.f31.body.getD .skip)]
noncomputable def K29 : List Go.Sx.Item := [.code (Tryd.f29.body.getD .skip)]
noncomputable def K21 : List Go.Sx.Item := [.code (Tryd.f21.body.getD .skip)]
noncomputable def K6 : List Go.Sx.Item := [.code (Tryd.f6.body.getD .skip)]
noncomputable def K7 : List Go.Sx.Item := [.code (Tryd.f7.body.getD .skip)]


def withinC : Ctr := ctrP true (fun d : Int => [.int .i64 d]) (fun _ => True) (fun d r => r = dayB d) (fun _ (r : Bool) => (.bool r, []))
theorem within_ok : CtrOK Tryd.prog 31 withinC := by
  refine fn_ctrP (fn := Tryd.f31) (c := Tryd.f31.body.getD .skip) rfl rfl rfl fun d hs O w0 Q hq => ?_
  replace hq := hq _ rfl
  refine SafeK.run (k := K31) hmix noG_ok [] 400 (T := Tree.leaf (Leaf2.ret [AV.bool (bif decide ((0 : Int) ≤ d) then decide (d ≤ (99999 : Int)) else false)] [])) (by kernel_rfl) ?_
  simp only [Tree.holds, Leafs2]
  refine RetR.scal hq rfl ?_
  simp only [resV, dayB]
  cases decide (0 ≤ d) <;> rfl
theorem rday_ok : CtrOK Tryd.prog 29 withinC := by
  refine fn_ctrP (fn := Tryd.f29) (c := Tryd.f29.body.getD .skip) rfl rfl rfl fun d hs O w0 Q hq => ?_
  replace hq := hq _ rfl
  refine SafeK.run (k := K29) hmix noG_ok [] 400 (T := Tree.leaf (Leaf2.ret [AV.bool (bif decide ((0 : Int) ≤ d) then decide (d ≤ (99999 : Int)) else false)] [])) (by kernel_rfl) ?_
  simp only [Tree.holds, Leafs2]
  refine RetR.scal hq rfl ?_
  simp only [resV, dayB]
  cases decide (0 ≤ d) <;> rfl
theorem isL_int (c : UInt8) : (bif bif decide (97 ≤ (c.toNat : Int)) then decide ((c.toNat : Int) ≤ 122) else false then true else bif decide (65 ≤ (c.toNat : Int)) then decide ((c.toNat : Int) ≤ 90) else false) = isL c := by
  have e1 : decide (97 ≤ (c.toNat : Int)) = decide (97 ≤ c.toNat) := decide_eq_decide.2 (by omega)
  have e2 : decide ((c.toNat : Int) ≤ 122) = decide (c.toNat ≤ 122) := decide_eq_decide.2 (by omega)
  have e3 : decide (65 ≤ (c.toNat : Int)) = decide (65 ≤ c.toNat) := decide_eq_decide.2 (by omega)
  have e4 : decide ((c.toNat : Int) ≤ 90) = decide (c.toNat ≤ 90) := decide_eq_decide.2 (by omega)
  rw [e1, e2, e3, e4]
  simp only [isL]
  cases decide (97 ≤ c.toNat) <;> cases decide (c.toNat ≤ 122) <;> cases decide (65 ≤ c.toNat) <;> rfl
def letterC : Ctr := ctrP true (fun c : UInt8 => [.int .u8 (c.toNat : Int)]) (fun _ => True) (fun c r => r = isL c) (fun _ (r : Bool) => (.bool r, []))
theorem letter_ok : CtrOK Tryd.prog 21 letterC := by
  refine fn_ctrP (fn := Tryd.f21) (c := Tryd.f21.body.getD .skip) rfl rfl rfl fun c hs O w0 Q hq => ?_
  replace hq := hq _ rfl
  refine SafeK.run (k := K21) hmix noG_ok [] 400 (T := Tree.leaf (Leaf2.ret [AV.bool (bif bif decide ((97 : Int) ≤ (↑(UInt8.toNat c) : Int)) then decide ((↑(UInt8.toNat c) : Int) ≤ (122 : Int)) else false then true else bif decide ((65 : Int) ≤ (↑(UInt8.toNat c) : Int)) then decide ((↑(UInt8.toNat c) : Int) ≤ (90 : Int)) else false)] [])) (by kernel_rfl) ?_
  simp only [Tree.holds, Leafs2]
  refine RetR.scal hq rfl ?_
  simp only [resV]
  rw [isL_int]
theorem dec_eq_u8 (c d : UInt8) : decide ((c.toNat : Int) = (d.toNat : Int)) = (c == d) := by
  by_cases h : c = d
  · subst h; simp
  · rw [decide_eq_false fun h2 => h (u8_eq h2)]
    simp [h]
theorem isD_bif (c : UInt8) : (bif decide ((c.toNat : Int) < 48) then true else decide (57 < (c.toNat : Int))) = !isD c := by
  rw [Bool.cond_eq_ite]; exact dig_test c
theorem isD_bif2 (c : UInt8) : (bif decide (48 ≤ (c.toNat : Int)) then decide ((c.toNat : Int) ≤ 57) else false) = isD c := by
  have e1 : decide (48 ≤ (c.toNat : Int)) = decide (48 ≤ c.toNat) := decide_eq_decide.2 (by omega)
  have e2 : decide ((c.toNat : Int) ≤ 57) = decide (c.toNat ≤ 57) := decide_eq_decide.2 (by omega)
  rw [e1, e2]; simp only [isD]
  cases decide (48 ≤ c.toNat) <;> cases decide (c.toNat ≤ 57) <;> rfl
theorem isN_test (c : UInt8) : (bif bif bif !isL c then bif decide ((c.toNat : Int) < 48) then true else decide (57 < (c.toNat : Int)) else false then !decide ((c.toNat : Int) = 95) else false then !decide ((c.toNat : Int) = 45) else false) = !isN c := by
  rw [isD_bif]
  have e1 : decide ((c.toNat : Int) = 95) = (c == 95) := dec_eq_u8 c 95
  have e2 : decide ((c.toNat : Int) = 45) = (c == 45) := dec_eq_u8 c 45
  rw [e1, e2]; simp only [isN]
  cases isL c <;> cases isD c <;> cases (c == 95) <;> cases (c == 45) <;> rfl
theorem isN_test2 (c : UInt8) (z : Bool) : (bif !bif bif decide (97 ≤ (c.toNat : Int)) then decide ((c.toNat : Int) ≤ 122) else false then true else bif decide (65 ≤ (c.toNat : Int)) then decide ((c.toNat : Int) ≤ 90) else false then
    bif z then true else !bif bif bif decide (48 ≤ (c.toNat : Int)) then decide ((c.toNat : Int) ≤ 57) else false then true else decide ((c.toNat : Int) = 95) then true else decide ((c.toNat : Int) = 45) else false) = !(isL c || (!z && isN c)) := by
  rw [isL_int, isD_bif2]
  have e1 : decide ((c.toNat : Int) = 95) = (c == 95) := dec_eq_u8 c 95
  have e2 : decide ((c.toNat : Int) = 45) = (c == 45) := dec_eq_u8 c 45
  rw [e1, e2]; simp only [isN]
  cases isL c <;> cases z <;> cases isD c <;> cases (c == 95) <;> cases (c == 45) <;> rfl
theorem isL_isN {c : UInt8} (h : isL c = true) : isN c = true := by simp [isN, h]
def nameC : Ctr := ctrP true (fun s : List UInt8 => [.str s]) (fun s => s.length < 2 ^ 62) (fun s r => r = nameB s) (fun _ (r : Bool) => (.bool r, []))
def GN1 : Nat → Option Ctr := fun f => if f = 21 then some (letterC) else none
theorem GN1_ok : ∀ g c, GN1 g = some c → CtrOK Tryd.prog g c := by
  intro g c h
  unfold GN1 at h
  by_cases hg : g = 21
  · subst hg
    rw [if_pos rfl] at h
    cases h
    exact letter_ok
  rw [if_neg hg] at h
  clear hg
  cases h

def SNa (s : List UInt8) (i : Nat) : KV := [(0, .str s), (20, .int .i64 (s.length : Int)), (21, .int .i64 (i : Int)), (31, .undef), (32, .undef), (33, .undef), (34, .undef), (35, .undef), (36, .undef), (39, .undef), (40, .undef), (43, .undef), (44, .undef)]
theorem name_loop {O : Nat → Prop} {w0 : World} {Q : AV × Heap → Prop} {Hs : Nat → KV → Heap → Prop} (s : List UInt8) (hs : s.length < 2 ^ 62) (hq : Q (.bool (s.all isN), [])) :
    SafeK Tryd.prog Tryd.f6 O 0 w0 [] Hs (RetR nameC 0 Q) (.code (.loop (lps K6 0).1) :: (lps K6 0).2) (mk Tryd.f6.ntmps (SNa s 0) []) := by
  refine SafeK.loop (ι := {i : Nat // i ≤ s.length ∧ ∀ j, j < i → isN (s.getD j 0) = true}) (fun i => SNa s i.1) (fun _ => []) (fun i => s.length - i.1) ⟨0, Nat.zero_le _, fun j hj => by omega⟩ 0 ?_ ?_ (by kernel_rfl)
  · exact ⟨by simp [SNa], by simp, by kernel_rfl, Nat.zero_le _⟩
  · rintro ⟨i, hil, hib⟩
    refine SafeK.run (k := inside K6 0) hmix GN1_ok [0, 20, 21, 31, 32, 33, 34, 35, 36, 39, 40, 43, 44] 400 (T := Tree.ite (decide ((↑i : Int) < (↑(List.length s) : Int))) (Tree.side ((0 : Int) ≤ (↑i : Int) ∧ (↑i : Int) < (↑(List.length s) : Int)) (Tree.ex (fun (x : UInt8) => eqL [AV.int IntKind.u8 (↑(UInt8.toNat (List.getD s (Int.toNat (↑i : Int)) (0 : UInt8))) : Int)] [AV.int IntKind.u8 (↑(UInt8.toNat x) : Int)] ∧ True) fun (n : UInt8) => Tree.all (fun (r : Bool) => r = isL n) fun (n : Bool) => Tree.ite (bif bif bif !n then bif decide ((↑(UInt8.toNat (List.getD s (Int.toNat (↑i : Int)) (0 : UInt8))) : Int) < (48 : Int)) then true else decide ((57 : Int) < (↑(UInt8.toNat (List.getD s (Int.toNat (↑i : Int)) (0 : UInt8))) : Int)) else false then !decide ((↑(UInt8.toNat (List.getD s (Int.toNat (↑i : Int)) (0 : UInt8))) : Int) = (95 : Int)) else false then !decide ((↑(UInt8.toNat (List.getD s (Int.toNat (↑i : Int)) (0 : UInt8))) : Int) = (45 : Int)) else false) (Tree.leaf (Leaf2.ret [AV.bool false] [])) (Tree.side (inR IntKind.i64 ((↑i : Int) + (1 : Int))) (Tree.leaf (Leaf2.back (0 : Nat) [((0 : Nat), AV.str s), ((20 : Nat), AV.int IntKind.i64 (↑(List.length s) : Int)), ((21 : Nat), AV.int IntKind.i64 ((↑i : Int) + (1 : Int))), ((31 : Nat), AV.undef), ((32 : Nat), AV.undef), ((33 : Nat), AV.undef), ((34 : Nat), AV.undef), ((35 : Nat), AV.undef), ((36 : Nat), AV.undef), ((39 : Nat), AV.undef), ((40 : Nat), AV.undef), ((43 : Nat), AV.undef), ((44 : Nat), AV.undef)] []))))) (Tree.leaf (Leaf2.ret [AV.bool true] []))) (by kernel_rfl) ?_
    simp only [Tree.holds, Leafs2, inR, lo, hi, Int.toNat_natCast]
    refine ⟨fun hlt => ?_, fun hge => ?_⟩
    · have hlt : i < s.length := by have := of_decide_eq_true hlt; omega
      refine ⟨by omega, fun _ => ⟨s.getD i 0, ⟨by simp, trivial⟩, ⟨_, rfl⟩, ?_⟩⟩
      rintro _ rfl
      rw [isN_test]
      refine ⟨fun h => ?_, fun h => ⟨by omega, fun _ => ?_⟩⟩
      · rw [all_getD_not hlt (by simpa using h)] at hq
        exact RetR.scal hq rfl (by simp [resV])
      · rw [if_pos trivial]
        refine ⟨⟨i + 1, hlt, fun j hj => ?_⟩, by show s.length - (i + 1) < s.length - i; omega, by simp [SNa], by simp, by kernel_rfl, Nat.zero_le _⟩
        rcases Nat.lt_or_ge j i with h1 | h1
        · exact hib j h1
        · have : j = i := by omega
          rw [this]; simpa using h
    · have hge : i = s.length := by have := of_decide_eq_false hge; omega
      subst hge
      rw [all_getD hib] at hq
      exact RetR.scal hq rfl (by simp [resV])
theorem name_ok : CtrOK Tryd.prog 6 nameC := by
  refine fn_ctrP (fn := Tryd.f6) (c := Tryd.f6.body.getD .skip) rfl rfl rfl fun s hs O w0 Q hq => ?_
  replace hq := hq _ rfl
  refine SafeK.run (k := K6) hmix GN1_ok [0, 20, 21, 31, 32, 33, 34, 35, 36, 39, 40, 43, 44] 400 (T := Tree.side ((bif decide ((↑(List.length s) : Int) < (1 : Int)) then true else decide ((40 : Int) < (↑(List.length s) : Int))) = false → (0 : Int) ≤ (0 : Int) ∧ (0 : Int) < (↑(List.length s) : Int)) (Tree.ex (fun (x : UInt8) => (bif decide ((↑(List.length s) : Int) < (1 : Int)) then true else decide ((40 : Int) < (↑(List.length s) : Int))) = false → eqL [AV.int IntKind.u8 (↑(UInt8.toNat (List.getD s (0 : Nat) (0 : UInt8))) : Int)] [AV.int IntKind.u8 (↑(UInt8.toNat x) : Int)] ∧ True) fun (n : UInt8) => Tree.all (fun (x : Bool) => (bif decide ((↑(List.length s) : Int) < (1 : Int)) then true else decide ((40 : Int) < (↑(List.length s) : Int))) = false → x = isL n) fun (n : Bool) => Tree.ite (bif bif decide ((↑(List.length s) : Int) < (1 : Int)) then true else decide ((40 : Int) < (↑(List.length s) : Int)) then true else !n) (Tree.leaf (Leaf2.ret [AV.bool false] [])) (Tree.leaf (Leaf2.loop (Prod.fst (lps K6 (0 : Nat))) (Prod.snd (lps K6 (0 : Nat))) [((0 : Nat), AV.str s), ((20 : Nat), AV.int IntKind.i64 (↑(List.length s) : Int)), ((21 : Nat), AV.int IntKind.i64 (0 : Int)), ((31 : Nat), AV.undef), ((32 : Nat), AV.undef), ((33 : Nat), AV.undef), ((34 : Nat), AV.undef), ((35 : Nat), AV.undef), ((36 : Nat), AV.undef), ((39 : Nat), AV.undef), ((40 : Nat), AV.undef), ((43 : Nat), AV.undef), ((44 : Nat), AV.undef)] [])))) (by kernel_rfl) ?_
  simp only [Tree.holds, Leafs2, inR, lo, hi]
  have hd : decide ((s.length : Int) < 1) = !decide (0 < s.length) := by
    by_cases h : 0 < s.length
    · rw [decide_eq_true h, decide_eq_false (by omega)]; rfl
    · rw [decide_eq_false h, decide_eq_true (by omega)]; rfl
  have hd2 : decide (40 < (s.length : Int)) = !decide (s.length ≤ 40) := by
    by_cases h : s.length ≤ 40
    · rw [decide_eq_true h, decide_eq_false (by omega)]; rfl
    · rw [decide_eq_false h, decide_eq_true (by omega)]; rfl
  rw [hd, hd2]
  have hnb : nameB s = (decide (0 < s.length) && decide (s.length ≤ 40) && isL (s.getD 0 0) && s.all isN) := rfl
  cases h1 : decide (0 < s.length) with
  | false =>
    rw [hnb, h1] at hq
    refine ⟨fun h => (by cases h), fun _ => ⟨0, fun h => (by cases h), ⟨false, fun h => (by cases h)⟩, ?_⟩⟩
    intro b _
    exact ⟨fun _ => RetR.scal hq rfl (by simp [resV]), fun h => (by cases h)⟩
  | true =>
    have h1' := of_decide_eq_true h1
    cases h2 : decide (s.length ≤ 40) with
    | false =>
      rw [hnb, h1, h2] at hq
      refine ⟨fun h => (by cases h), fun _ => ⟨0, fun h => (by cases h), ⟨false, fun h => (by cases h)⟩, ?_⟩⟩
      intro b _
      exact ⟨fun _ => RetR.scal hq rfl (by simp [resV]), fun h => (by cases h)⟩
    | true =>
      refine ⟨fun _ => by omega, fun _ => ⟨s.getD 0 0, fun _ => ⟨by simp, trivial⟩, ⟨_, fun _ => rfl⟩, ?_⟩⟩
      intro b hb
      have hb := hb rfl
      subst hb
      cases h3 : isL (s.getD 0 0) with
      | false =>
        rw [hnb, h1, h2, h3] at hq
        exact ⟨fun _ => RetR.scal hq rfl (by simp [resV]), fun h => (by cases h)⟩
      | true =>
        rw [hnb, h1, h2, h3] at hq
        refine ⟨fun h => (by cases h), fun _ => ?_⟩
        exact name_loop s hs hq

def SNr (s : List UInt8) (i : Nat) : KV := [(0, .str s), (3, .int .i64 (i : Int)), (27, .undef), (28, .undef), (31, .undef), (32, .undef), (33, .undef), (34, .undef), (35, .undef), (36, .undef), (41, .undef), (42, .undef), (45, .undef), (46, .undef), (49, .undef), (50, .undef), (55, .undef), (56, .undef), (57, .undef), (58, .undef), (59, .undef), (60, .undef)]
theorem rname_loop {O : Nat → Prop} {w0 : World} {Q : AV × Heap → Prop} {Hs : Nat → KV → Heap → Prop} (s : List UInt8) (hs : s.length < 2 ^ 62) (h0 : 0 < s.length) (hq : Q (.bool (isL (s.getD 0 0) && s.all isN), [])) :
    SafeK Tryd.prog Tryd.f7 O 0 w0 [] Hs (RetR nameC 0 Q) (.code (.loop (lps K7 0).1) :: (lps K7 0).2) (mk Tryd.f7.ntmps (SNr s 0) []) := by
  refine SafeK.loop (ι := {i : Nat // i ≤ s.length ∧ (∀ j, j < i → isN (s.getD j 0) = true) ∧ (0 < i → isL (s.getD 0 0) = true)}) (fun i => SNr s i.1) (fun _ => []) (fun i => s.length - i.1) ⟨0, Nat.zero_le _, fun j hj => by omega, fun h => by omega⟩ 0 ?_ ?_ (by kernel_rfl)
  · exact ⟨by simp [SNr], by simp, by kernel_rfl, Nat.zero_le _⟩
  · rintro ⟨i, hil, hib, hi0⟩
    refine SafeK.run (k := inside K7 0) hmix noG_ok [0, 3, 27, 28, 31, 32, 33, 34, 35, 36, 41, 42, 45, 46, 49, 50, 55, 56, 57, 58, 59, 60] 400 (T := Tree.ite (decide ((↑i : Int) < (↑(List.length s) : Int))) (Tree.side ((0 : Int) ≤ (↑i : Int) ∧ (↑i : Int) < (↑(List.length s) : Int)) (Tree.ite (bif !bif bif decide ((97 : Int) ≤ (↑(UInt8.toNat (List.getD s (Int.toNat (↑i : Int)) (0 : UInt8))) : Int)) then decide ((↑(UInt8.toNat (List.getD s (Int.toNat (↑i : Int)) (0 : UInt8))) : Int) ≤ (122 : Int)) else false then true else bif decide ((65 : Int) ≤ (↑(UInt8.toNat (List.getD s (Int.toNat (↑i : Int)) (0 : UInt8))) : Int)) then decide ((↑(UInt8.toNat (List.getD s (Int.toNat (↑i : Int)) (0 : UInt8))) : Int) ≤ (90 : Int)) else false then bif decide ((↑i : Int) = (0 : Int)) then true else !bif bif bif decide ((48 : Int) ≤ (↑(UInt8.toNat (List.getD s (Int.toNat (↑i : Int)) (0 : UInt8))) : Int)) then decide ((↑(UInt8.toNat (List.getD s (Int.toNat (↑i : Int)) (0 : UInt8))) : Int) ≤ (57 : Int)) else false then true else decide ((↑(UInt8.toNat (List.getD s (Int.toNat (↑i : Int)) (0 : UInt8))) : Int) = (95 : Int)) then true else decide ((↑(UInt8.toNat (List.getD s (Int.toNat (↑i : Int)) (0 : UInt8))) : Int) = (45 : Int)) else false) (Tree.leaf (Leaf2.ret [AV.bool false] [])) (Tree.side (inR IntKind.i64 ((↑i : Int) + (1 : Int))) (Tree.leaf (Leaf2.back (0 : Nat) [((0 : Nat), AV.str s), ((3 : Nat), AV.int IntKind.i64 ((↑i : Int) + (1 : Int))), ((27 : Nat), AV.undef), ((28 : Nat), AV.undef), ((31 : Nat), AV.undef), ((32 : Nat), AV.undef), ((33 : Nat), AV.undef), ((34 : Nat), AV.undef), ((35 : Nat), AV.undef), ((36 : Nat), AV.undef), ((41 : Nat), AV.undef), ((42 : Nat), AV.undef), ((45 : Nat), AV.undef), ((46 : Nat), AV.undef), ((49 : Nat), AV.undef), ((50 : Nat), AV.undef), ((55 : Nat), AV.undef), ((56 : Nat), AV.undef), ((57 : Nat), AV.undef), ((58 : Nat), AV.undef), ((59 : Nat), AV.undef), ((60 : Nat), AV.undef)] []))))) (Tree.leaf (Leaf2.ret [AV.bool true] []))) (by kernel_rfl) ?_
    simp only [Tree.holds, Leafs2, inR, lo, hi, Int.toNat_natCast]
    refine ⟨fun hlt => ?_, fun hge => ?_⟩
    · have hlt : i < s.length := by have := of_decide_eq_true hlt; omega
      refine ⟨by omega, fun _ => ?_⟩
      rw [isN_test2]
      have hz : decide ((i : Int) = 0) = decide (i = 0) := decide_eq_decide.2 (by omega)
      rw [hz]
      refine ⟨fun h => ?_, fun h => ⟨by omega, fun _ => ?_⟩⟩
      · have hf : (isL (s.getD 0 0) && s.all isN) = false := by
          have h : (isL (s.getD i 0) || (!decide (i = 0) && isN (s.getD i 0))) = false := by simpa only [Bool.not_eq_true'] using h
          rcases Nat.eq_zero_or_pos i with hi | hi
          · subst hi
            have : isL (s.getD 0 0) = false := by
              cases h3 : isL (s.getD 0 0) with
              | false => rfl
              | true => rw [h3] at h; cases h
            rw [this]; rfl
          · rw [decide_eq_false (by omega)] at h
            have : isN (s.getD i 0) = false := by
              cases h3 : isN (s.getD i 0) with
              | false => rfl
              | true => rw [h3] at h; revert h; cases isL (s.getD i 0) <;> intro h <;> cases h
            rw [all_getD_not hlt this]; cases isL (s.getD 0 0) <;> rfl
        rw [hf] at hq
        exact RetR.scal hq rfl (by simp [resV])
      · rw [if_pos trivial]
        have h : (isL (s.getD i 0) || (!decide (i = 0) && isN (s.getD i 0))) = true := by simpa only [Bool.not_eq_false'] using h
        have hN : isN (s.getD i 0) = true := by
          cases h3 : isL (s.getD i 0) with
          | true => exact isL_isN h3
          | false =>
            rw [h3] at h
            revert h; cases decide (i = 0) <;> cases isN (s.getD i 0) <;> simp
        refine ⟨⟨i + 1, hlt, fun j hj => ?_, fun _ => ?_⟩, by show s.length - (i + 1) < s.length - i; omega, by simp [SNr], by simp, by kernel_rfl, Nat.zero_le _⟩
        · rcases Nat.lt_or_ge j i with h1 | h1
          · exact hib j h1
          · have : j = i := by omega
            rw [this]; exact hN
        · rcases Nat.eq_zero_or_pos i with h1 | h1
          · subst h1
            cases h3 : isL (s.getD 0 0) with
            | true => rfl
            | false => rw [h3] at h; cases h
          · exact hi0 h1
    · have hge : i = s.length := by have := of_decide_eq_false hge; omega
      subst hge
      rw [all_getD hib, hi0 h0] at hq
      exact RetR.scal hq rfl (by simp [resV])
theorem rname_ok : CtrOK Tryd.prog 7 nameC := by
  refine fn_ctrP (fn := Tryd.f7) (c := Tryd.f7.body.getD .skip) rfl rfl rfl fun s hs O w0 Q hq => ?_
  replace hq := hq _ rfl
  refine SafeK.run (k := K7) hmix noG_ok [0, 3, 27, 28, 31, 32, 33, 34, 35, 36, 41, 42, 45, 46, 49, 50, 55, 56, 57, 58, 59, 60] 400 (T := Tree.ite (bif decide ((↑(List.length s) : Int) = (0 : Int)) then true else decide ((40 : Int) < (↑(List.length s) : Int))) (Tree.leaf (Leaf2.ret [AV.bool false] [])) (Tree.leaf (Leaf2.loop (Prod.fst (lps K7 (0 : Nat))) (Prod.snd (lps K7 (0 : Nat))) [((0 : Nat), AV.str s), ((3 : Nat), AV.int IntKind.i64 (0 : Int)), ((27 : Nat), AV.undef), ((28 : Nat), AV.undef), ((31 : Nat), AV.undef), ((32 : Nat), AV.undef), ((33 : Nat), AV.undef), ((34 : Nat), AV.undef), ((35 : Nat), AV.undef), ((36 : Nat), AV.undef), ((41 : Nat), AV.undef), ((42 : Nat), AV.undef), ((45 : Nat), AV.undef), ((46 : Nat), AV.undef), ((49 : Nat), AV.undef), ((50 : Nat), AV.undef), ((55 : Nat), AV.undef), ((56 : Nat), AV.undef), ((57 : Nat), AV.undef), ((58 : Nat), AV.undef), ((59 : Nat), AV.undef), ((60 : Nat), AV.undef)] []))) (by kernel_rfl) ?_
  simp only [Tree.holds, Leafs2, inR, lo, hi]
  have hd : decide ((s.length : Int) = 0) = !decide (0 < s.length) := by
    by_cases h : 0 < s.length
    · rw [decide_eq_true h, decide_eq_false (by omega)]; rfl
    · rw [decide_eq_false h, decide_eq_true (by omega)]; rfl
  have hd2 : decide (40 < (s.length : Int)) = !decide (s.length ≤ 40) := by
    by_cases h : s.length ≤ 40
    · rw [decide_eq_true h, decide_eq_false (by omega)]; rfl
    · rw [decide_eq_false h, decide_eq_true (by omega)]; rfl
  rw [hd, hd2]
  have hnb : nameB s = (decide (0 < s.length) && decide (s.length ≤ 40) && isL (s.getD 0 0) && s.all isN) := rfl
  cases h1 : decide (0 < s.length) with
  | false =>
    rw [hnb, h1] at hq
    exact ⟨fun _ => RetR.scal hq rfl (by simp [resV]), fun h => (by cases h)⟩
  | true =>
    cases h2 : decide (s.length ≤ 40) with
    | false =>
      rw [hnb, h1, h2] at hq
      exact ⟨fun _ => RetR.scal hq rfl (by simp [resV]), fun h => (by cases h)⟩
    | true =>
      rw [hnb, h1, h2] at hq
      refine ⟨fun h => (by cases h), fun _ => ?_⟩
      exact rname_loop s hs (of_decide_eq_true h1) hq
end Go.Proofs.Tryd
end

/- Expressions: their size. -/
section
set_option linter.unusedVariables false
set_option linter.unusedSimpArgs false
set_option maxRecDepth 100000
open Go Go.Sx Go.Proofs Go.Nov
namespace Go.Proofs.Tryd
attribute [local simp] eqKV eqA eqA0 eqH eqB eqL eqL0
noncomputable def K14 : List Go.Sx.Item := [.code (Tryd.f14.body.getD .skip)]
noncomputable def K15 : List Go.Sx.Item := [.code (Tryd.f15.body.getD .skip)]

/-- A recursion: each depth leans on the one below. -/
theorem ctrP_rec {X R : Type} {P : Program} {g : Nat} {fresh : Bool} {inp : X → List AV} {pre : X → Prop} {post : X → R → Prop} {out : X → R → AV × Heap} (μ : X → Nat)
    (step : ∀ n, CtrOK P g (ctrP fresh inp (fun x => μ x < n ∧ pre x) post out) → CtrOK P g (ctrP fresh inp (fun x => μ x < n + 1 ∧ pre x) post out)) : CtrOK P g (ctrP fresh inp pre post out) := by
  have all : ∀ n, CtrOK P g (ctrP fresh inp (fun x => μ x < n ∧ pre x) post out) := by
    intro n
    induction n with
    | zero =>
      intro args hc Q hq _
      simp only [ctrP] at hq
      split at hq
      · obtain ⟨x, ⟨_, h, _⟩, _⟩ := hq
        exact absurd h (Nat.not_lt_zero _)
      · exact hq.elim
    | succ n ih => exact step n ih
  intro args hc Q hq hf
  match hc, hq, hf with
  | [], hq, hf =>
    obtain ⟨x, ⟨h1, h2⟩, h3⟩ := hq
    exact all (μ x + 1) args [] Q ⟨x, ⟨h1, Nat.lt_succ_self _, h2⟩, h3⟩ hf
  | _ :: _, hq, _ => exact hq.elim
def sizeC (n : Nat) : Ctr := ctrP true (fun x : Ex => [x.exA]) (fun x => x.size < n ∧ x.size < 2 ^ 62) (fun x r => r = x.size) (fun _ (r : Nat) => (.int .i64 (r : Int), []))
def GSz (g n : Nat) : Nat → Option Ctr := fun f => if f = g then some (sizeC n) else none
theorem GSz_ok {g n : Nat} (h : CtrOK Tryd.prog g (sizeC n)) : ∀ f c, GSz g n f = some c → CtrOK Tryd.prog f c := by
  intro f c hf
  simp only [GSz] at hf
  split at hf
  · rename_i hg; subst hg; cases hf; exact h
  · cases hf
theorem eqL_exA {x : Ex} {k d : Int} {r m : List UInt8} {l : Nat} {g : Nat → Nat → AV} (hk : k = x.kind) (hr : r = x.rat) (hm : m = x.name) (hd : d = x.date) (hl : l = x.sub.length) (hg : eqG x.sub.length 5 g (Ex.exG x.sub)) : eqL [.agg [.int .u8 k, .str r, .str m, .int .i64 d, .sl l 5 g]] [x.exA] := by
  subst hk; subst hr; subst hm; subst hd; subst hl
  exact ⟨⟨⟨rfl, rfl⟩, rfl, rfl, ⟨rfl, rfl⟩, ⟨rfl, rfl, hg⟩, trivial⟩, trivial⟩
def SSz (s : List Ex) (c i : Nat) : KV := [(3, .int .i64 (c : Int)), (7, Ex.exS s), (8, .int .i64 (s.length : Int)), (9, .int .i64 (i : Int))]

theorem size_step (n : Nat) (ih : CtrOK Tryd.prog 14 (sizeC n)) : CtrOK Tryd.prog 14 (sizeC (n + 1)) := by
  refine fn_ctrP (fn := Tryd.f14) (c := Tryd.f14.body.getD .skip) rfl rfl rfl fun x hx O w0 Q hq => ?_
  replace hq := hq _ rfl
  obtain ⟨hxn, hxs⟩ := hx
  rw [Ex.size_eq] at hxn hxs hq
  obtain ⟨k, r, m, d, s⟩ := x
  simp only [Ex.sub] at hxn hxs hq
  refine SafeK.run (k := K14) hmix (GSz_ok ih) [3, 7, 8, 9] 400 (T := Tree.leaf (Leaf2.loop (Prod.fst (lps K14 (0 : Nat))) (Prod.snd (lps K14 (0 : Nat))) [((3 : Nat), AV.int IntKind.i64 (1 : Int)), ((7 : Nat), AV.sl (List.length s) (5 : Nat) (Ex.exG s)), ((8 : Nat), AV.int IntKind.i64 (↑(List.length s) : Int)), ((9 : Nat), AV.int IntKind.i64 (0 : Int))] [Blk.box [AV.int IntKind.u8 k, AV.str r, AV.str m, AV.int IntKind.i64 d, AV.sl (List.length s) (5 : Nat) (Ex.exG s)]])) (by kernel_rfl) ?_
  simp only [Tree.holds, Leafs2]
  have hlen := Ex.length_le_sizes s
  refine SafeK.loop (ι := {i : Nat // i ≤ s.length}) (fun i => SSz s (1 + Ex.sizes (s.take i.1)) i.1) (fun _ => []) (fun i => s.length - i.1) ⟨0, Nat.zero_le _⟩ 0 ?_ ?_ (by kernel_rfl)
  · exact ⟨by simp [SSz, Ex.sizes, Ex.exS, eqG_refl], by simp, by kernel_rfl, Nat.zero_le _⟩
  · rintro ⟨i, hil⟩
    have hle := Ex.sizes_le_take s i
    obtain ⟨c, hc⟩ : ∃ c, 1 + Ex.sizes (s.take i) = c := ⟨_, rfl⟩
    simp only [hc]
    refine SafeK.run (k := inside K14 0) hmix (GSz_ok ih) [3, 7, 8, 9] 400 (T := Tree.ite (decide ((↑i : Int) < (↑(List.length s) : Int))) (Tree.side ((0 : Int) ≤ (↑i : Int) ∧ (↑i : Int) < (↑(List.length s) : Int)) (Tree.ex (fun (x : Ex) => eqL [AV.agg [AV.int IntKind.u8 (Ex.kind (List.getD s (Int.toNat (↑i : Int)) Ex.nil)), AV.str (Ex.rat (List.getD s (Int.toNat (↑i : Int)) Ex.nil)), AV.str (Ex.name (List.getD s (Int.toNat (↑i : Int)) Ex.nil)), AV.int IntKind.i64 (Ex.date (List.getD s (Int.toNat (↑i : Int)) Ex.nil)), AV.sl (List.length (Ex.sub (List.getD s (Int.toNat (↑i : Int)) Ex.nil))) (5 : Nat) (Ex.deep (List.getD s (Int.toNat (↑i : Int)) Ex.nil))]] [AV.agg [AV.int IntKind.u8 (Ex.kind x), AV.str (Ex.rat x), AV.str (Ex.name x), AV.int IntKind.i64 (Ex.date x), AV.sl (List.length (Ex.sub x)) (5 : Nat) (Ex.exG (Ex.sub x))]] ∧ Ex.size x < n ∧ Ex.size x < (4611686018427387904 : Nat)) fun (n : Ex) => Tree.all (fun (r : Nat) => r = Ex.size n) fun (n : Nat) => Tree.side (inR IntKind.i64 ((↑c : Int) + (↑n : Int))) (Tree.side (inR IntKind.i64 ((↑i : Int) + (1 : Int))) (Tree.leaf (Leaf2.back (0 : Nat) [((3 : Nat), AV.int IntKind.i64 ((↑c : Int) + (↑n : Int))), ((7 : Nat), AV.sl (List.length s) (5 : Nat) (Ex.exG s)), ((8 : Nat), AV.int IntKind.i64 (↑(List.length s) : Int)), ((9 : Nat), AV.int IntKind.i64 ((↑i : Int) + (1 : Int)))] [Blk.box [AV.int IntKind.u8 (Ex.kind (List.getD s (Int.toNat (↑i : Int)) Ex.nil)), AV.str (Ex.rat (List.getD s (Int.toNat (↑i : Int)) Ex.nil)), AV.str (Ex.name (List.getD s (Int.toNat (↑i : Int)) Ex.nil)), AV.int IntKind.i64 (Ex.date (List.getD s (Int.toNat (↑i : Int)) Ex.nil)), AV.sl (List.length (Ex.sub (List.getD s (Int.toNat (↑i : Int)) Ex.nil))) (5 : Nat) (Ex.deep (List.getD s (Int.toNat (↑i : Int)) Ex.nil))]]))))) (Tree.leaf (Leaf2.ret [AV.int IntKind.i64 (↑c : Int)] []))) (by kernel_rfl) ?_
    simp only [Tree.holds, Leafs2, inR, lo, hi, Int.toNat_natCast]
    refine ⟨fun hlt => ?_, fun hge => ?_⟩
    · have hlt : i < s.length := by have := of_decide_eq_true hlt; omega
      have hg := Ex.sizes_get hlt
      have ht := Ex.sizes_take s i hlt
      have hle2 := Ex.sizes_le_take s (i + 1)
      refine ⟨by omega, fun _ => ⟨s.getD i Ex.nil, ⟨eqL_exA rfl rfl rfl rfl rfl (Ex.deep_eq _), by omega, by omega⟩, ⟨_, rfl⟩, ?_⟩⟩
      rintro _ rfl
      refine ⟨by omega, fun _ => ⟨by omega, fun _ => ?_⟩⟩
      rw [if_pos trivial]
      refine ⟨⟨i + 1, hlt⟩, by show s.length - (i + 1) < s.length - i; omega, ?_, by simp, by kernel_rfl, Nat.zero_le _⟩
      simp [SSz, Ex.exS, eqG_refl, ht]; omega
    · have hge : i = s.length := by have := of_decide_eq_false hge; omega
      subst hge
      rw [List.take_length] at hc
      rw [hc] at hq
      exact RetR.scal hq rfl (by simp [resV])
def sizeAll : Ctr := ctrP true (fun x : Ex => [x.exA]) (fun x => x.size < 2 ^ 62) (fun x r => r = x.size) (fun _ (r : Nat) => (.int .i64 (r : Int), []))
theorem size_ok : CtrOK Tryd.prog 14 sizeAll := ctrP_rec Ex.size size_step
def boxE (k : Int) (r m : List UInt8) (d : Int) (s : List Ex) : Heap := [.box [.int .u8 k, .str r, .str m, .int .i64 d, Ex.exS s]]
def SSr (c i : Nat) : KV := [(1, .ptr 0 0), (3, .int .i64 (c : Int)), (4, .int .i64 (i : Int))]

theorem rsize_step (n : Nat) (ih : CtrOK Tryd.prog 15 (sizeC n)) : CtrOK Tryd.prog 15 (sizeC (n + 1)) := by
  refine fn_ctrP (fn := Tryd.f15) (c := Tryd.f15.body.getD .skip) rfl rfl rfl fun x hx O w0 Q hq => ?_
  replace hq := hq _ rfl
  obtain ⟨hxn, hxs⟩ := hx
  rw [Ex.size_eq] at hxn hxs hq
  obtain ⟨k, r, m, d, s⟩ := x
  simp only [Ex.sub] at hxn hxs hq
  refine SafeK.run (k := K15) hmix (GSz_ok ih) [1, 3, 4] 400 (T := Tree.leaf (Leaf2.loop (Prod.fst (lps K15 (0 : Nat))) (Prod.snd (lps K15 (0 : Nat))) [((1 : Nat), AV.ptr (0 : Nat) (0 : Nat)), ((3 : Nat), AV.int IntKind.i64 (1 : Int)), ((4 : Nat), AV.int IntKind.i64 (0 : Int))] [Blk.box [AV.int IntKind.u8 k, AV.str r, AV.str m, AV.int IntKind.i64 d, AV.sl (List.length s) (5 : Nat) (Ex.exG s)]])) (by kernel_rfl) ?_
  simp only [Tree.holds, Leafs2]
  have hlen := Ex.length_le_sizes s
  refine SafeK.loop (ι := {i : Nat // i ≤ s.length}) (fun i => SSr (1 + Ex.sizes (s.take i.1)) i.1) (fun _ => boxE k r m d s) (fun i => s.length - i.1) ⟨0, Nat.zero_le _⟩ 0 ?_ ?_ (by kernel_rfl)
  · exact ⟨by simp [SSr, Ex.sizes], by simp [boxE, Ex.exS, eqG_refl], by kernel_rfl, Nat.zero_le _⟩
  · rintro ⟨i, hil⟩
    have hle := Ex.sizes_le_take s i
    obtain ⟨c, hc⟩ : ∃ c, 1 + Ex.sizes (s.take i) = c := ⟨_, rfl⟩
    simp only [hc]
    refine SafeK.run (k := inside K15 0) hmix (GSz_ok ih) [1, 3, 4] 400 (T := Tree.ite (decide ((↑i : Int) < (↑(List.length s) : Int))) (Tree.side ((0 : Int) ≤ (↑i : Int) ∧ (↑i : Int) < (↑(List.length s) : Int)) (Tree.ex (fun (x : Ex) => eqL [AV.agg [AV.int IntKind.u8 (Ex.kind (List.getD s (Int.toNat (↑i : Int)) Ex.nil)), AV.str (Ex.rat (List.getD s (Int.toNat (↑i : Int)) Ex.nil)), AV.str (Ex.name (List.getD s (Int.toNat (↑i : Int)) Ex.nil)), AV.int IntKind.i64 (Ex.date (List.getD s (Int.toNat (↑i : Int)) Ex.nil)), AV.sl (List.length (Ex.sub (List.getD s (Int.toNat (↑i : Int)) Ex.nil))) (5 : Nat) (Ex.deep (List.getD s (Int.toNat (↑i : Int)) Ex.nil))]] [AV.agg [AV.int IntKind.u8 (Ex.kind x), AV.str (Ex.rat x), AV.str (Ex.name x), AV.int IntKind.i64 (Ex.date x), AV.sl (List.length (Ex.sub x)) (5 : Nat) (Ex.exG (Ex.sub x))]] ∧ Ex.size x < n ∧ Ex.size x < (4611686018427387904 : Nat)) fun (n : Ex) => Tree.all (fun (r : Nat) => r = Ex.size n) fun (n : Nat) => Tree.side (inR IntKind.i64 ((↑c : Int) + (↑n : Int))) (Tree.side (inR IntKind.i64 ((↑i : Int) + (1 : Int))) (Tree.leaf (Leaf2.back (0 : Nat) [((1 : Nat), AV.ptr (0 : Nat) (0 : Nat)), ((3 : Nat), AV.int IntKind.i64 ((↑c : Int) + (↑n : Int))), ((4 : Nat), AV.int IntKind.i64 ((↑i : Int) + (1 : Int)))] [Blk.box [AV.int IntKind.u8 k, AV.str r, AV.str m, AV.int IntKind.i64 d, AV.sl (List.length s) (5 : Nat) (Ex.exG s)]]))))) (Tree.leaf (Leaf2.ret [AV.int IntKind.i64 (↑c : Int)] [Blk.box [AV.int IntKind.u8 k, AV.str r, AV.str m, AV.int IntKind.i64 d, AV.sl (List.length s) (5 : Nat) (Ex.exG s)]]))) (by kernel_rfl) ?_
    simp only [Tree.holds, Leafs2, inR, lo, hi, Int.toNat_natCast]
    refine ⟨fun hlt => ?_, fun hge => ?_⟩
    · have hlt : i < s.length := by have := of_decide_eq_true hlt; omega
      have hg := Ex.sizes_get hlt
      have ht := Ex.sizes_take s i hlt
      have hle2 := Ex.sizes_le_take s (i + 1)
      refine ⟨by omega, fun _ => ⟨s.getD i Ex.nil, ⟨eqL_exA rfl rfl rfl rfl rfl (Ex.deep_eq _), by omega, by omega⟩, ⟨_, rfl⟩, ?_⟩⟩
      rintro _ rfl
      refine ⟨by omega, fun _ => ⟨by omega, fun _ => ?_⟩⟩
      rw [if_pos trivial]
      refine ⟨⟨i + 1, hlt⟩, by show s.length - (i + 1) < s.length - i; omega, ?_, by simp [boxE, Ex.exS, eqG_refl], by kernel_rfl, Nat.zero_le _⟩
      simp [SSr, ht]; omega
    · have hge : i = s.length := by have := of_decide_eq_false hge; omega
      subst hge
      rw [List.take_length] at hc
      rw [hc] at hq
      exact RetR.scal hq rfl (by simp [resV])
theorem rsize_ok : CtrOK Tryd.prog 15 sizeAll := ctrP_rec Ex.size rsize_step
end Go.Proofs.Tryd
end

/- Expressions: depth, strings, sorts. -/
section
set_option linter.unusedVariables false
set_option linter.unusedSimpArgs false
namespace Go.Nov
open Go.Sx
/-- Whether a node without parts is a number. -/
def leafB (k : Int) (r n : List UInt8) (d : Int) (l : Nat) : Bool :=
  decide (l = 0) && (if k = 1 then decide (errR r = 0) && decide (n = []) && decide (d = 0) else if k = 2 then decide (r = []) && nameB n && dayB d else if k = 3 then decide (r = []) && nameB n && decide (d = 0) else false)
/-- The sort of a node, from the sorts of its parts. -/
def sortN (k : Int) (r n : List UInt8) (d : Int) (ss : List Int) : Int :=
  if shpHas k = true then (if r = [] ∧ n = [] ∧ d = 0 ∧ ss = shpParts k then shpOwn k else 0) else if leafB k r n d ss.length = true then 1 else 0
/-- Numbers as the elements of a slice. -/
def intG (l : List Int) : Nat → Nat → AV := fun j _ => .int .i64 (l.getD j 0)
def bareB (r m : List UInt8) (d : Int) : Bool := bif (bif decide (r = []) then decide (m = []) else false) then decide (d = 0) else false
theorem sortN_shp {k : Int} {r m : List UInt8} {d : Int} {l ps : List Int} {w : Int} (h : shpAt k = some (ps, w)) : sortN k r m d l = if bareB r m d = true ∧ l = ps then w else 0 := by
  have h1 : shpHas k = true := by simp [shpHas, h]
  have h2 : shpParts k = ps := by simp [shpParts, h]
  have h3 : shpOwn k = w := by simp [shpOwn, h]
  unfold sortN
  rw [if_pos h1, h2, h3]
  simp [bareB, and_assoc]
theorem sortN_leaf {k : Int} {r m : List UInt8} {d : Int} {l : List Int} (h : shpHas k = false) : sortN k r m d l = if leafB k r m d l.length = true then 1 else 0 := by
  unfold sortN
  rw [if_neg (by rw [h]; decide)]
theorem shp_no {k : Int} (h : ¬ (4 ≤ k ∧ k ≤ 9)) (h2 : ¬ (11 ≤ k ∧ k ≤ 15)) : shpHas k = false := by
  have e : ∀ c : Int, (4 ≤ c ∧ c ≤ 9) ∨ (11 ≤ c ∧ c ≤ 15) → (c == k) = false := fun c hc => by
    rw [beq_eq_false_iff_ne]; omega
  simp only [shpHas, shpAt, shpL, List.find?_cons, e 4 (by omega), e 5 (by omega), e 6 (by omega), e 7 (by omega), e 8 (by omega), e 9 (by omega), e 11 (by omega), e 12 (by omega), e 13 (by omega), e 14 (by omega), e 15 (by omega), List.find?_nil]
  rfl
theorem list1 {l : List Int} {a : Int} : l = [a] ↔ (l.length : Int) = 1 ∧ l[0]?.getD 0 = a := by
  match l with
  | [] => simp
  | [x] => simp
  | _ :: _ :: l => simp; omega
theorem list2 {l : List Int} {a b : Int} : l = [a, b] ↔ (l.length : Int) = 2 ∧ l[0]?.getD 0 = a ∧ l[1]?.getD 0 = b := by
  match l with
  | [] => simp
  | [x] => simp
  | [x, y] => simp
  | _ :: _ :: _ :: l => simp; omega
theorem list3 {l : List Int} {a b c : Int} : l = [a, b, c] ↔ (l.length : Int) = 3 ∧ l[0]?.getD 0 = a ∧ l[1]?.getD 0 = b ∧ l[2]?.getD 0 = c := by
  match l with
  | [] => simp
  | [x] => simp
  | [x, y] => simp
  | [x, y, z] => simp
  | _ :: _ :: _ :: _ :: l => simp; omega
namespace Ex
mutual
def depth : Ex → Nat
  | mk _ _ _ _ s => 1 + depths s
def depths : List Ex → Nat
  | [] => 0
  | x :: l => max (depth x) (depths l)
end
mutual
def bytesE : Ex → Nat
  | mk _ r n _ s => r.length + n.length + bytesL s
def bytesL : List Ex → Nat
  | [] => 0
  | x :: l => bytesE x + bytesL l
end
mutual
def sortE : Ex → Int
  | mk k r n d s => sortN k r n d (sorts s)
def sorts : List Ex → List Int
  | [] => []
  | x :: l => sortE x :: sorts l
end
mutual
/-- All strings are of a length that a machine has. -/
def thin : Ex → Prop
  | mk _ r n _ s => r.length ≤ 2 ^ 48 ∧ n.length ≤ 2 ^ 48 ∧ thins s
def thins : List Ex → Prop
  | [] => True
  | x :: l => thin x ∧ thins l
end
theorem depth_eq (x : Ex) : x.depth = 1 + depths x.sub := by cases x; rw [depth]; rfl
theorem bytesE_eq (x : Ex) : x.bytesE = x.rat.length + x.name.length + bytesL x.sub := by cases x; rw [bytesE]; rfl
theorem sortE_eq (x : Ex) : x.sortE = sortN x.kind x.rat x.name x.date (sorts x.sub) := by cases x; rw [sortE]; rfl
theorem depths_take (s : List Ex) (i : Nat) (h : i < s.length) : depths (s.take (i + 1)) = max (depths (s.take i)) (s.getD i nil).depth := by
  induction s generalizing i with
  | nil => simp at h
  | cons x s ih =>
    cases i with
    | zero => simp [depths]
    | succ i =>
      simp only [List.take_succ_cons, depths, List.getD_cons_succ]
      rw [ih i (by simpa using h)]
      omega
theorem depths_get {s : List Ex} {i : Nat} (h : i < s.length) : (s.getD i nil).depth ≤ depths s := by
  induction s generalizing i with
  | nil => simp at h
  | cons x s ih =>
    cases i with
    | zero => simp [depths]; omega
    | succ i =>
      simp only [List.getD_cons_succ, depths]
      have := ih (i := i) (by simpa using h)
      omega
theorem bytesL_take (s : List Ex) (i : Nat) (h : i < s.length) : bytesL (s.take (i + 1)) = bytesL (s.take i) + (s.getD i nil).bytesE := by
  induction s generalizing i with
  | nil => simp at h
  | cons x s ih =>
    cases i with
    | zero => simp [bytesL]
    | succ i =>
      simp only [List.take_succ_cons, bytesL, List.getD_cons_succ]
      rw [ih i (by simpa using h)]
      omega
theorem bytesL_get {s : List Ex} {i : Nat} (h : i < s.length) : (s.getD i nil).bytesE ≤ bytesL s := by
  induction s generalizing i with
  | nil => simp at h
  | cons x s ih =>
    cases i with
    | zero => simp [bytesL]
    | succ i =>
      simp only [List.getD_cons_succ, bytesL]
      have := ih (i := i) (by simpa using h)
      omega
theorem bytesL_le_take (s : List Ex) (i : Nat) : bytesL (s.take i) ≤ bytesL s := by
  induction s generalizing i with
  | nil => simp [bytesL]
  | cons x s ih =>
    cases i with
    | zero => simp [bytesL]
    | succ i => simp only [List.take_succ_cons, bytesL]; have := ih i; omega
theorem sorts_length (s : List Ex) : (sorts s).length = s.length := by
  induction s with
  | nil => simp [sorts]
  | cons x s ih => simp [sorts, ih]
theorem sorts_get {s : List Ex} {i : Nat} (h : i < s.length) : (sorts s).getD i 0 = (s.getD i nil).sortE := by
  induction s generalizing i with
  | nil => simp at h
  | cons x s ih =>
    cases i with
    | zero => simp [sorts]
    | succ i => simpa [sorts] using ih (i := i) (by simpa using h)
theorem sorts_eq {s : List Ex} {ps : List Int} : sorts s = ps ↔ s.length = ps.length ∧ ∀ i, i < s.length → (s.getD i nil).sortE = ps.getD i 0 := by
  constructor
  · rintro rfl
    exact ⟨(sorts_length s).symm, fun i hi => (sorts_get hi).symm⟩
  · rintro ⟨h1, h2⟩
    apply List.ext_getElem
    · rw [sorts_length, h1]
    · intro i g1 g2
      have g3 : i < s.length := by rwa [sorts_length] at g1
      have := h2 i g3
      rw [← sorts_get g3] at this
      simpa [List.getD, g1, g2] using this
theorem thins_get {s : List Ex} {i : Nat} (h : i < s.length) (ht : thins s) : thin (s.getD i nil) := by
  induction s generalizing i with
  | nil => simp at h
  | cons x s ih =>
    simp only [thins] at ht
    cases i with
    | zero => simpa using ht.1
    | succ i => simpa using ih (i := i) (by simpa using h) ht.2
mutual
theorem bytesE_le : ∀ x : Ex, thin x → bytesE x ≤ size x * 2 ^ 49
  | mk k r n d s, h => by
    rw [thin] at h
    have := bytesL_le s h.2.2
    rw [bytesE, size, Nat.add_mul]
    omega
theorem bytesL_le : ∀ l : List Ex, thins l → bytesL l ≤ sizes l * 2 ^ 49
  | [], _ => by simp [bytesL]
  | x :: l, h => by
    rw [thins] at h
    have h1 := bytesE_le x h.1
    have h2 := bytesL_le l h.2
    rw [bytesL, sizes, Nat.add_mul]
    omega
end
/-- The error of an expression. -/
def errX (x : Ex) : Int := if 500 < x.size ∨ 60 < x.depth then 4 else if x.sortE = 0 then 8 else 0
theorem depth_pos (x : Ex) : 0 < x.depth := by rw [depth_eq]; omega
theorem depth_le_size : ∀ x : Ex, x.depth ≤ x.size := by
  intro x
  have key : ∀ (n : Nat) (x : Ex), x.size ≤ n → x.depth ≤ x.size := by
    intro n
    induction n with
    | zero => intro x h; have := size_pos x; omega
    | succ n ih =>
      intro x h
      rw [size_eq] at h ⊢
      rw [depth_eq]
      have : ∀ l : List Ex, sizes l ≤ n → depths l ≤ sizes l := by
        intro l
        induction l with
        | nil => simp [depths]
        | cons y l il =>
          intro hl
          simp only [sizes, depths] at hl ⊢
          have := ih y (by omega)
          have := il (by omega)
          omega
      have := this x.sub (by omega)
      omega
  exact key _ x (Nat.le_refl _)
theorem sorts_take (s : List Ex) (i : Nat) (h : i < s.length) : sorts (s.take (i + 1)) = sorts (s.take i) ++ [(s.getD i nil).sortE] := by
  induction s generalizing i with
  | nil => simp at h
  | cons x s ih =>
    cases i with
    | zero => simp [sorts]
    | succ i =>
      simp only [List.take_succ_cons, sorts, List.getD_cons_succ, List.cons_append]
      rw [ih i (by simpa using h)]
theorem list_same {s t : List Ex} (hl : s.length = t.length) (h : ∀ j, j < s.length → s.getD j nil = t.getD j nil) : s = t := by
  apply List.ext_getElem hl
  intro i g1 g2
  have := h i g1
  simpa [List.getD, g1, g2] using this
theorem same_iff {x y : Ex} : x = y ↔ x.kind = y.kind ∧ x.rat = y.rat ∧ x.name = y.name ∧ x.date = y.date ∧ x.sub = y.sub := by
  cases x; cases y
  simp [kind, rat, name, date, sub]
end Ex
end Go.Nov
end

/- Expressions: the reference's bounds. -/
section
set_option linter.unusedVariables false
set_option linter.unusedSimpArgs false
set_option maxRecDepth 100000
open Go Go.Sx Go.Proofs Go.Nov
namespace Go.Proofs.Tryd
attribute [local simp] eqKV eqA eqA0 eqH eqB eqL eqL0
noncomputable def K19 : List Go.Sx.Item := [.code (Tryd.f19.body.getD .skip)]
noncomputable def K20 : List Go.Sx.Item := [.code (Tryd.f20.body.getD .skip)]
/-- A table with one contract. -/
def G1c (g : Nat) (C : Ctr) : Nat → Option Ctr := fun f => if f = g then some C else none
theorem G1c_ok {g : Nat} {C : Ctr} (h : CtrOK Tryd.prog g C) : ∀ f c, G1c g C f = some c → CtrOK Tryd.prog f c := by
  intro f c hf
  simp only [G1c] at hf
  split at hf
  · rename_i hg; subst hg; cases hf; exact h
  · cases hf
def countC (n : Nat) : Ctr := ctrP true (fun p : Ex × Nat × Nat => [p.1.exA, .int .i64 (p.2.1 : Int), .int .i64 (p.2.2 : Int)]) (fun p => p.1.size < n ∧ p.2.1 < 2 ^ 40 ∧ p.2.2 < 2 ^ 40)
  (fun p (r : Nat × Bool) => 1 ≤ r.1 ∧ r.1 ≤ p.2.1 + 1 ∧ (r.2 = true → r.1 ≤ p.2.1 → r.1 = p.1.size)) (fun _ (r : Nat × Bool) => (.tup [.int .i64 (r.1 : Int), .bool r.2], []))
def SCn (limit deep m i : Nat) : KV := [(1, .int .i64 (limit : Int)), (2, .int .i64 (deep : Int)), (3, .ptr 0 0), (8, .int .i64 (m : Int)), (9, .int .i64 (i : Int)), (20, .undef), (21, .undef), (22, .undef)]

theorem count_step (n : Nat) (ih : CtrOK Tryd.prog 19 (countC n)) : CtrOK Tryd.prog 19 (countC (n + 1)) := by
  refine fn_ctrP (fn := Tryd.f19) (c := Tryd.f19.body.getD .skip) rfl rfl rfl fun p hp O w0 Q hq => ?_
  obtain ⟨x, limit, deep⟩ := p
  obtain ⟨hxn, hli, hde⟩ := hp
  simp only at hxn hli hde hq
  rw [Ex.size_eq] at hxn hq
  obtain ⟨k, r, m, d, s⟩ := x
  simp only [Ex.sub] at hxn hq
  refine SafeK.run (k := K19) hmix (G1c_ok ih) [1, 2, 3, 8, 9, 20, 21, 22] 400 (T := Tree.ite (decide ((↑deep : Int) = (0 : Int))) (Tree.leaf (Leaf2.ret [AV.int IntKind.i64 (1 : Int), AV.bool false] [Blk.box [AV.int IntKind.u8 k, AV.str r, AV.str m, AV.int IntKind.i64 d, AV.sl (List.length s) (5 : Nat) (Ex.exG s)]])) (Tree.leaf (Leaf2.loop (Prod.fst (lps K19 (0 : Nat))) (Prod.snd (lps K19 (0 : Nat))) [((1 : Nat), AV.int IntKind.i64 (↑limit : Int)), ((2 : Nat), AV.int IntKind.i64 (↑deep : Int)), ((3 : Nat), AV.ptr (0 : Nat) (0 : Nat)), ((8 : Nat), AV.int IntKind.i64 (1 : Int)), ((9 : Nat), AV.int IntKind.i64 (0 : Int)), ((20 : Nat), AV.undef), ((21 : Nat), AV.undef), ((22 : Nat), AV.undef)] [Blk.box [AV.int IntKind.u8 k, AV.str r, AV.str m, AV.int IntKind.i64 d, AV.sl (List.length s) (5 : Nat) (Ex.exG s)]]))) (by kernel_rfl) ?_
  simp only [Tree.holds, Leafs2]
  refine ⟨fun h0 => ?_, fun h0 => ?_⟩
  · exact RetR.scal (hq (1, false) ⟨Nat.le_refl _, by simp, fun h => by cases h⟩) rfl (by simp [resV])
  · have h0 : 0 < deep := by have := of_decide_eq_false h0; omega
    refine SafeK.loop (ι := {q : Nat × Nat // q.1 ≤ limit + 1 ∧ q.2 < q.1 ∧ q.2 ≤ s.length ∧ (q.1 ≤ limit → q.1 = 1 + Ex.sizes (s.take q.2))}) (fun q => SCn limit deep q.1.1 q.1.2) (fun _ => boxE k r m d s) (fun q => s.length - q.1.2) ⟨(1, 0), by simp [Ex.sizes]⟩ 0 ?_ ?_ (by kernel_rfl)
    · exact ⟨by simp [SCn], by simp [boxE, Ex.exS, eqG_refl], by kernel_rfl, Nat.zero_le _⟩
    · rintro ⟨⟨c, i⟩, h1, h2, h3, h4⟩
      simp only at h1 h2 h3 h4
      refine SafeK.run (k := inside K19 0) hmix (G1c_ok ih) [1, 2, 3, 8, 9, 20, 21, 22] 400 (T := Tree.ite (bif decide ((↑i : Int) < (↑(List.length s) : Int)) then decide ((↑c : Int) ≤ (↑limit : Int)) else false) (Tree.side ((0 : Int) ≤ (↑i : Int) ∧ (↑i : Int) < (↑(List.length s) : Int)) (Tree.side (inR IntKind.i64 ((↑limit : Int) - (↑c : Int))) (Tree.side (inR IntKind.i64 ((↑deep : Int) - (1 : Int))) (Tree.ex (fun (x : Ex × Nat × Nat) => eqL [AV.agg [AV.int IntKind.u8 (Ex.kind (List.getD s (Int.toNat (↑i : Int)) Ex.nil)), AV.str (Ex.rat (List.getD s (Int.toNat (↑i : Int)) Ex.nil)), AV.str (Ex.name (List.getD s (Int.toNat (↑i : Int)) Ex.nil)), AV.int IntKind.i64 (Ex.date (List.getD s (Int.toNat (↑i : Int)) Ex.nil)), AV.sl (List.length (Ex.sub (List.getD s (Int.toNat (↑i : Int)) Ex.nil))) (5 : Nat) (Ex.deep (List.getD s (Int.toNat (↑i : Int)) Ex.nil))], AV.int IntKind.i64 ((↑limit : Int) - (↑c : Int)), AV.int IntKind.i64 ((↑deep : Int) - (1 : Int))] [AV.agg [AV.int IntKind.u8 (Ex.kind (Prod.fst x)), AV.str (Ex.rat (Prod.fst x)), AV.str (Ex.name (Prod.fst x)), AV.int IntKind.i64 (Ex.date (Prod.fst x)), AV.sl (List.length (Ex.sub (Prod.fst x))) (5 : Nat) (Ex.exG (Ex.sub (Prod.fst x)))], AV.int IntKind.i64 (↑(Prod.fst (Prod.snd x)) : Int), AV.int IntKind.i64 (↑(Prod.snd (Prod.snd x)) : Int)] ∧ Ex.size (Prod.fst x) < n ∧ Prod.fst (Prod.snd x) < (1099511627776 : Nat) ∧ Prod.snd (Prod.snd x) < (1099511627776 : Nat)) fun (n : Ex × Nat × Nat) => Tree.all (fun (r : Nat × Bool) => (1 : Nat) ≤ Prod.fst r ∧ Prod.fst r ≤ Prod.fst (Prod.snd n) + (1 : Nat) ∧ (Prod.snd r = true → Prod.fst r ≤ Prod.fst (Prod.snd n) → Prod.fst r = Ex.size (Prod.fst n))) fun (n : Nat × Bool) => Tree.ite (!Prod.snd n) (Tree.leaf (Leaf2.ret [AV.int IntKind.i64 (↑c : Int), AV.bool false] [Blk.box [AV.int IntKind.u8 k, AV.str r, AV.str m, AV.int IntKind.i64 d, AV.sl (List.length s) (5 : Nat) (Ex.exG s)]])) (Tree.side (inR IntKind.i64 ((↑c : Int) + (↑(Prod.fst n) : Int))) (Tree.side (inR IntKind.i64 ((↑i : Int) + (1 : Int))) (Tree.leaf (Leaf2.back (0 : Nat) [((1 : Nat), AV.int IntKind.i64 (↑limit : Int)), ((2 : Nat), AV.int IntKind.i64 (↑deep : Int)), ((3 : Nat), AV.ptr (0 : Nat) (0 : Nat)), ((8 : Nat), AV.int IntKind.i64 ((↑c : Int) + (↑(Prod.fst n) : Int))), ((9 : Nat), AV.int IntKind.i64 ((↑i : Int) + (1 : Int))), ((20 : Nat), AV.undef), ((21 : Nat), AV.undef), ((22 : Nat), AV.undef)] [Blk.box [AV.int IntKind.u8 k, AV.str r, AV.str m, AV.int IntKind.i64 d, AV.sl (List.length s) (5 : Nat) (Ex.exG s)]])))))))) (Tree.leaf (Leaf2.ret [AV.int IntKind.i64 (↑c : Int), AV.bool true] [Blk.box [AV.int IntKind.u8 k, AV.str r, AV.str m, AV.int IntKind.i64 d, AV.sl (List.length s) (5 : Nat) (Ex.exG s)]]))) (by kernel_rfl) ?_
      simp only [Tree.holds, Leafs2, inR, lo, hi, Int.toNat_natCast]
      refine ⟨fun hlt => ?_, fun hge => ?_⟩
      · have hlt1 : i < s.length ∧ c ≤ limit := by
          by_cases g1 : i < s.length
          · by_cases g2 : c ≤ limit
            · exact ⟨g1, g2⟩
            · rw [decide_eq_false (show ¬ (c : Int) ≤ limit by omega)] at hlt
              cases hx : decide ((i : Int) < s.length) <;> rw [hx] at hlt <;> cases hlt
          · rw [decide_eq_false (show ¬ (i : Int) < s.length by omega)] at hlt
            cases hlt
        obtain ⟨hlt, hcl⟩ := hlt1
        have hg := Ex.sizes_get hlt
        have ht := Ex.sizes_take s i hlt
        have h4 := h4 hcl
        iterate 3 refine ⟨by omega, fun _ => ?_⟩
        refine ⟨(s.getD i Ex.nil, limit - c, deep - 1), ⟨?_, by show (s.getD i Ex.nil).size < n; omega, by show limit - c < 2 ^ 40; omega, by show deep - 1 < 2 ^ 40; omega⟩, ⟨(1, false), Nat.le_refl _, by simp, fun h => by cases h⟩, ?_⟩
        · have e1 : (limit : Int) - c = ((limit - c : Nat) : Int) := by omega
          have e2 : (deep : Int) - 1 = ((deep - 1 : Nat) : Int) := by omega
          rw [e1, e2]
          exact ⟨⟨⟨rfl, rfl⟩, rfl, rfl, ⟨rfl, rfl⟩, ⟨rfl, rfl, Ex.deep_eq _⟩, trivial⟩, ⟨rfl, rfl⟩, ⟨rfl, rfl⟩, trivial⟩
        rintro ⟨m', b⟩ ⟨g1, g2, g3⟩
        simp only at g1 g2 g3
        refine ⟨fun hb => ?_, fun hb => ?_⟩
        · exact RetR.scal (hq (c, false) ⟨by show 1 ≤ c; omega, by show c ≤ limit + 1; omega, fun h => by cases h⟩) rfl (by simp [resV])
        · have hb : b = true := by simpa using hb
          refine ⟨by omega, fun _ => ⟨by omega, fun _ => ?_⟩⟩
          rw [if_pos trivial]
          refine ⟨⟨(c + m', i + 1), ?_, ?_, hlt, ?_⟩, by show s.length - (i + 1) < s.length - i; omega, ?_, by simp [boxE, Ex.exS, eqG_refl], by kernel_rfl, Nat.zero_le _⟩
          · show c + m' ≤ limit + 1; omega
          · show i + 1 < c + m'; omega
          · show c + m' ≤ limit → c + m' = 1 + Ex.sizes (s.take (i + 1))
            intro hle
            have := g3 hb (by omega)
            omega
          · simp [SCn]
      · refine RetR.scal (hq (c, true) ⟨by show 1 ≤ c; omega, h1, fun _ hle => ?_⟩) rfl (by simp [resV])
        simp only at hle
        have hge : i = s.length := by
          by_cases g1 : i < s.length
          · rw [decide_eq_true (show (i : Int) < s.length by omega), decide_eq_true (show (c : Int) ≤ limit by omega)] at hge
            cases hge
          · omega
        have h4 := h4 hle
        rw [hge, List.take_length] at h4
        exact h4
theorem count_ok : CtrOK Tryd.prog 19 (ctrP true (fun p : Ex × Nat × Nat => [p.1.exA, .int .i64 (p.2.1 : Int), .int .i64 (p.2.2 : Int)]) (fun p => p.2.1 < 2 ^ 40 ∧ p.2.2 < 2 ^ 40)
  (fun p (r : Nat × Bool) => 1 ≤ r.1 ∧ r.1 ≤ p.2.1 + 1 ∧ (r.2 = true → r.1 ≤ p.2.1 → r.1 = p.1.size)) (fun _ (r : Nat × Bool) => (.tup [.int .i64 (r.1 : Int), .bool r.2], []))) := ctrP_rec (fun p => p.1.size) count_step
def bytesC (n : Nat) : Ctr := ctrP true (fun x : Ex => [x.exA]) (fun x => x.size < n ∧ x.size < 2 ^ 60 ∧ x.bytesE < 2 ^ 60) (fun x r => r = x.bytesE) (fun _ (r : Nat) => (.int .i64 (r : Int), []))
def SBy (c i : Nat) : KV := [(1, .ptr 0 0), (3, .int .i64 (c : Int)), (4, .int .i64 (i : Int))]

theorem bytes_step (n : Nat) (ih : CtrOK Tryd.prog 20 (bytesC n)) : CtrOK Tryd.prog 20 (bytesC (n + 1)) := by
  refine fn_ctrP (fn := Tryd.f20) (c := Tryd.f20.body.getD .skip) rfl rfl rfl fun x hx O w0 Q hq => ?_
  replace hq := hq _ rfl
  obtain ⟨hxn, hxs, hxb⟩ := hx
  rw [Ex.bytesE_eq] at hq hxb
  rw [Ex.size_eq] at hxn hxs
  obtain ⟨k, r, m, d, s⟩ := x
  simp only [Ex.sub, Ex.rat, Ex.name] at hxn hxs hq hxb
  refine SafeK.run (k := K20) hmix (G1c_ok ih) [1, 3, 4] 400 (T := Tree.side (inR IntKind.i64 ((↑(List.length r) : Int) + (↑(List.length m) : Int))) (Tree.leaf (Leaf2.loop (Prod.fst (lps K20 (0 : Nat))) (Prod.snd (lps K20 (0 : Nat))) [((1 : Nat), AV.ptr (0 : Nat) (0 : Nat)), ((3 : Nat), AV.int IntKind.i64 ((↑(List.length r) : Int) + (↑(List.length m) : Int))), ((4 : Nat), AV.int IntKind.i64 (0 : Int))] [Blk.box [AV.int IntKind.u8 k, AV.str r, AV.str m, AV.int IntKind.i64 d, AV.sl (List.length s) (5 : Nat) (Ex.exG s)]]))) (by kernel_rfl) ?_
  simp only [Tree.holds, Leafs2, inR, lo, hi, Int.toNat_natCast]
  have hlen := Ex.length_le_sizes s
  refine ⟨by omega, fun _ => ?_⟩
  refine SafeK.loop (ι := {i : Nat // i ≤ s.length}) (fun i => SBy (r.length + m.length + Ex.bytesL (s.take i.1)) i.1) (fun _ => boxE k r m d s) (fun i => s.length - i.1) ⟨0, Nat.zero_le _⟩ 0 ?_ ?_ (by kernel_rfl)
  · exact ⟨by simp [SBy, Ex.bytesL], by simp [boxE, Ex.exS, eqG_refl], by kernel_rfl, Nat.zero_le _⟩
  · rintro ⟨i, hil⟩
    have hle := Ex.bytesL_le_take s i
    obtain ⟨c, hc⟩ : ∃ c, r.length + m.length + Ex.bytesL (s.take i) = c := ⟨_, rfl⟩
    simp only [hc]
    refine SafeK.run (k := inside K20 0) hmix (G1c_ok ih) [1, 3, 4] 400 (T := Tree.ite (decide ((↑i : Int) < (↑(List.length s) : Int))) (Tree.side ((0 : Int) ≤ (↑i : Int) ∧ (↑i : Int) < (↑(List.length s) : Int)) (Tree.ex (fun (x : Ex) => eqL [AV.agg [AV.int IntKind.u8 (Ex.kind (List.getD s (Int.toNat (↑i : Int)) Ex.nil)), AV.str (Ex.rat (List.getD s (Int.toNat (↑i : Int)) Ex.nil)), AV.str (Ex.name (List.getD s (Int.toNat (↑i : Int)) Ex.nil)), AV.int IntKind.i64 (Ex.date (List.getD s (Int.toNat (↑i : Int)) Ex.nil)), AV.sl (List.length (Ex.sub (List.getD s (Int.toNat (↑i : Int)) Ex.nil))) (5 : Nat) (Ex.deep (List.getD s (Int.toNat (↑i : Int)) Ex.nil))]] [AV.agg [AV.int IntKind.u8 (Ex.kind x), AV.str (Ex.rat x), AV.str (Ex.name x), AV.int IntKind.i64 (Ex.date x), AV.sl (List.length (Ex.sub x)) (5 : Nat) (Ex.exG (Ex.sub x))]] ∧ Ex.size x < n ∧ Ex.size x < (1152921504606846976 : Nat) ∧ Ex.bytesE x < (1152921504606846976 : Nat)) fun (n : Ex) => Tree.all (fun (r : Nat) => r = Ex.bytesE n) fun (n : Nat) => Tree.side (inR IntKind.i64 ((↑c : Int) + (↑n : Int))) (Tree.side (inR IntKind.i64 ((↑i : Int) + (1 : Int))) (Tree.leaf (Leaf2.back (0 : Nat) [((1 : Nat), AV.ptr (0 : Nat) (0 : Nat)), ((3 : Nat), AV.int IntKind.i64 ((↑c : Int) + (↑n : Int))), ((4 : Nat), AV.int IntKind.i64 ((↑i : Int) + (1 : Int)))] [Blk.box [AV.int IntKind.u8 k, AV.str r, AV.str m, AV.int IntKind.i64 d, AV.sl (List.length s) (5 : Nat) (Ex.exG s)]]))))) (Tree.leaf (Leaf2.ret [AV.int IntKind.i64 (↑c : Int)] [Blk.box [AV.int IntKind.u8 k, AV.str r, AV.str m, AV.int IntKind.i64 d, AV.sl (List.length s) (5 : Nat) (Ex.exG s)]]))) (by kernel_rfl) ?_
    simp only [Tree.holds, Leafs2, inR, lo, hi, Int.toNat_natCast]
    refine ⟨fun hlt => ?_, fun hge => ?_⟩
    · have hlt : i < s.length := by have := of_decide_eq_true hlt; omega
      have hg := Ex.sizes_get hlt
      have hg2 := Ex.bytesL_get hlt
      have ht := Ex.bytesL_take s i hlt
      have hle2 := Ex.bytesL_le_take s (i + 1)
      refine ⟨by omega, fun _ => ⟨s.getD i Ex.nil, ⟨eqL_exA rfl rfl rfl rfl rfl (Ex.deep_eq _), by omega, by omega, by omega⟩, ⟨_, rfl⟩, ?_⟩⟩
      rintro _ rfl
      refine ⟨by omega, fun _ => ⟨by omega, fun _ => ?_⟩⟩
      rw [if_pos trivial]
      refine ⟨⟨i + 1, hlt⟩, by show s.length - (i + 1) < s.length - i; omega, ?_, by simp [boxE, Ex.exS, eqG_refl], by kernel_rfl, Nat.zero_le _⟩
      simp [SBy, ht]; omega
    · have hge : i = s.length := by have := of_decide_eq_false hge; omega
      subst hge
      rw [List.take_length] at hc
      rw [hc] at hq
      exact RetR.scal hq rfl (by simp [resV])
theorem bytes_ok : CtrOK Tryd.prog 20 (ctrP true (fun x : Ex => [x.exA]) (fun x => x.size < 2 ^ 60 ∧ x.bytesE < 2 ^ 60) (fun x r => r = x.bytesE) (fun _ (r : Nat) => (.int .i64 (r : Int), []))) := ctrP_rec Ex.size bytes_step
end Go.Proofs.Tryd
end

/- Expressions: the depth. -/
section
set_option linter.unusedVariables false
set_option linter.unusedSimpArgs false
set_option maxRecDepth 100000
open Go Go.Sx Go.Proofs Go.Nov
namespace Go.Proofs.Tryd
attribute [local simp] eqKV eqA eqA0 eqH eqB eqL eqL0
noncomputable def K22 : List Go.Sx.Item := [.code (Tryd.f22.body.getD .skip)]
noncomputable def K24 : List Go.Sx.Item := [.code (Tryd.f24.body.getD .skip)]
def depthC (n : Nat) : Ctr := ctrP true (fun p : Ex × Nat => [p.1.exA, .int .i64 (p.2 : Int)]) (fun p => p.1.size < n ∧ p.1.size < 2 ^ 62 ∧ p.2 < 2 ^ 40) (fun p r => r = min p.1.depth (p.2 + 1)) (fun _ (r : Nat) => (.int .i64 (r : Int), []))
def SDp (s : List Ex) (limit c i : Nat) : KV := [(1, .int .i64 (limit : Int)), (5, .int .i64 (c : Int)), (11, Ex.exS s), (12, .int .i64 (s.length : Int)), (13, .int .i64 (i : Int))]

theorem depth_step (n : Nat) (ih : CtrOK Tryd.prog 22 (depthC n)) : CtrOK Tryd.prog 22 (depthC (n + 1)) := by
  refine fn_ctrP (fn := Tryd.f22) (c := Tryd.f22.body.getD .skip) rfl rfl rfl fun p hp O w0 Q hq => ?_
  obtain ⟨x, limit⟩ := p
  obtain ⟨hxn, hxs, hli⟩ := hp
  replace hq := hq _ rfl
  simp only at hxn hxs hli hq
  have hds := Ex.depth_le_size x
  have hdp := Ex.depth_pos x
  rw [Ex.depth_eq] at hq hds hdp
  rw [Ex.size_eq] at hxn hxs hds
  obtain ⟨k, r, m, d, s⟩ := x
  simp only [Ex.sub] at hxn hxs hq hds hdp
  have hlen := Ex.length_le_sizes s
  refine SafeK.run (k := K22) hmix (G1c_ok ih) [1, 5, 11, 12, 13] 400 (T := Tree.ite (decide ((0 : Int) < (↑limit : Int))) (Tree.leaf (Leaf2.loop (Prod.fst (lps K22 (0 : Nat))) (Prod.snd (lps K22 (0 : Nat))) [((1 : Nat), AV.int IntKind.i64 (↑limit : Int)), ((5 : Nat), AV.int IntKind.i64 (0 : Int)), ((11 : Nat), AV.sl (List.length s) (5 : Nat) (Ex.exG s)), ((12 : Nat), AV.int IntKind.i64 (↑(List.length s) : Int)), ((13 : Nat), AV.int IntKind.i64 (0 : Int))] [Blk.box [AV.int IntKind.u8 k, AV.str r, AV.str m, AV.int IntKind.i64 d, AV.sl (List.length s) (5 : Nat) (Ex.exG s)]])) (Tree.side (inR IntKind.i64 (1 : Int)) (Tree.leaf (Leaf2.ret [AV.int IntKind.i64 (1 : Int)] [Blk.box [AV.int IntKind.u8 k, AV.str r, AV.str m, AV.int IntKind.i64 d, AV.sl (List.length s) (5 : Nat) (Ex.exG s)]])))) (by kernel_rfl) ?_
  simp only [Tree.holds, Leafs2, inR, lo, hi, Int.toNat_natCast]
  refine ⟨fun hl => ?_, fun hl => ?_⟩
  · have hl : 0 < limit := by have := of_decide_eq_true hl; omega
    refine SafeK.loop (ι := {i : Nat // i ≤ s.length}) (fun i => SDp s limit (min (Ex.depths (s.take i.1)) limit) i.1) (fun _ => []) (fun i => s.length - i.1) ⟨0, Nat.zero_le _⟩ 0 ?_ ?_ (by kernel_rfl)
    · exact ⟨by simp [SDp, Ex.depths, Ex.exS, eqG_refl], by simp, by kernel_rfl, Nat.zero_le _⟩
    · rintro ⟨i, hil⟩
      obtain ⟨c, hc⟩ : ∃ c, min (Ex.depths (s.take i)) limit = c := ⟨_, rfl⟩
      simp only [hc]
      refine SafeK.run (k := inside K22 0) hmix (G1c_ok ih) [1, 5, 11, 12, 13] 400 (T := Tree.ite (decide ((↑i : Int) < (↑(List.length s) : Int))) (Tree.side ((0 : Int) ≤ (↑i : Int) ∧ (↑i : Int) < (↑(List.length s) : Int)) (Tree.side (inR IntKind.i64 ((↑limit : Int) - (1 : Int))) (Tree.ex (fun (x : Ex × Nat) => eqL [AV.agg [AV.int IntKind.u8 (Ex.kind (List.getD s (Int.toNat (↑i : Int)) Ex.nil)), AV.str (Ex.rat (List.getD s (Int.toNat (↑i : Int)) Ex.nil)), AV.str (Ex.name (List.getD s (Int.toNat (↑i : Int)) Ex.nil)), AV.int IntKind.i64 (Ex.date (List.getD s (Int.toNat (↑i : Int)) Ex.nil)), AV.sl (List.length (Ex.sub (List.getD s (Int.toNat (↑i : Int)) Ex.nil))) (5 : Nat) (Ex.deep (List.getD s (Int.toNat (↑i : Int)) Ex.nil))], AV.int IntKind.i64 ((↑limit : Int) - (1 : Int))] [AV.agg [AV.int IntKind.u8 (Ex.kind (Prod.fst x)), AV.str (Ex.rat (Prod.fst x)), AV.str (Ex.name (Prod.fst x)), AV.int IntKind.i64 (Ex.date (Prod.fst x)), AV.sl (List.length (Ex.sub (Prod.fst x))) (5 : Nat) (Ex.exG (Ex.sub (Prod.fst x)))], AV.int IntKind.i64 (↑(Prod.snd x) : Int)] ∧ Ex.size (Prod.fst x) < n ∧ Ex.size (Prod.fst x) < (4611686018427387904 : Nat) ∧ Prod.snd x < (1099511627776 : Nat)) fun (n : Ex × Nat) => Tree.all (fun (r : Nat) => r = min (Ex.depth (Prod.fst n)) (Prod.snd n + (1 : Nat))) fun (n : Nat) => Tree.side (inR IntKind.i64 ((↑i : Int) + (1 : Int))) (Tree.leaf (Leaf2.back (0 : Nat) [((1 : Nat), AV.int IntKind.i64 (↑limit : Int)), ((5 : Nat), AV.int IntKind.i64 (max (↑c : Int) (↑n : Int))), ((11 : Nat), AV.sl (List.length s) (5 : Nat) (Ex.exG s)), ((12 : Nat), AV.int IntKind.i64 (↑(List.length s) : Int)), ((13 : Nat), AV.int IntKind.i64 ((↑i : Int) + (1 : Int)))] [Blk.box [AV.int IntKind.u8 (Ex.kind (List.getD s (Int.toNat (↑i : Int)) Ex.nil)), AV.str (Ex.rat (List.getD s (Int.toNat (↑i : Int)) Ex.nil)), AV.str (Ex.name (List.getD s (Int.toNat (↑i : Int)) Ex.nil)), AV.int IntKind.i64 (Ex.date (List.getD s (Int.toNat (↑i : Int)) Ex.nil)), AV.sl (List.length (Ex.sub (List.getD s (Int.toNat (↑i : Int)) Ex.nil))) (5 : Nat) (Ex.deep (List.getD s (Int.toNat (↑i : Int)) Ex.nil))]]))))) (Tree.side (inR IntKind.i64 ((↑c : Int) + (1 : Int))) (Tree.leaf (Leaf2.ret [AV.int IntKind.i64 ((↑c : Int) + (1 : Int))] [])))) (by kernel_rfl) ?_
      simp only [Tree.holds, Leafs2, inR, lo, hi, Int.toNat_natCast]
      refine ⟨fun hlt => ?_, fun hge => ?_⟩
      · have hlt : i < s.length := by have := of_decide_eq_true hlt; omega
        have hg := Ex.sizes_get hlt
        have ht := Ex.depths_take s i hlt
        refine ⟨by omega, fun _ => ⟨by omega, fun _ => ⟨(s.getD i Ex.nil, limit - 1), ⟨?_, by show (s.getD i Ex.nil).size < n; omega, by show (s.getD i Ex.nil).size < 2 ^ 62; omega, by show limit - 1 < 2 ^ 40; omega⟩, ⟨_, rfl⟩, ?_⟩⟩⟩
        · have e1 : (limit : Int) - 1 = ((limit - 1 : Nat) : Int) := by omega
          rw [e1]
          exact ⟨⟨⟨rfl, rfl⟩, rfl, rfl, ⟨rfl, rfl⟩, ⟨rfl, rfl, Ex.deep_eq _⟩, trivial⟩, ⟨rfl, rfl⟩, trivial⟩
        rintro _ rfl
        refine ⟨by omega, fun _ => ?_⟩
        rw [if_pos trivial]
        refine ⟨⟨i + 1, hlt⟩, by show s.length - (i + 1) < s.length - i; omega, ?_, by simp, by kernel_rfl, Nat.zero_le _⟩
        simp [SDp, ht, Ex.exS, eqG_refl]; omega
      · have hge : i = s.length := by have := of_decide_eq_false hge; omega
        subst hge
        rw [List.take_length] at hc
        refine ⟨by omega, fun _ => ?_⟩
        exact RetR.scal hq rfl (by simp [resV]; omega)
  · have hl : limit = 0 := by have := of_decide_eq_false hl; omega
    refine ⟨by decide, fun _ => ?_⟩
    exact RetR.scal hq rfl (by simp [resV]; omega)
theorem depth_ok : CtrOK Tryd.prog 22 (ctrP true (fun p : Ex × Nat => [p.1.exA, .int .i64 (p.2 : Int)]) (fun p => p.1.size < 2 ^ 62 ∧ p.2 < 2 ^ 40) (fun p r => r = min p.1.depth (p.2 + 1)) (fun _ (r : Nat) => (.int .i64 (r : Int), []))) := ctrP_rec (fun p => p.1.size) depth_step
def rdepthC (n : Nat) : Ctr := ctrP true (fun x : Ex => [x.exA]) (fun x => x.size < n ∧ x.size < 2 ^ 62) (fun x r => r = x.depth) (fun _ (r : Nat) => (.int .i64 (r : Int), []))
def SDr (c i : Nat) : KV := [(1, .ptr 0 0), (3, .int .i64 (c : Int)), (4, .int .i64 (i : Int))]

theorem rdepth_step (n : Nat) (ih : CtrOK Tryd.prog 24 (rdepthC n)) : CtrOK Tryd.prog 24 (rdepthC (n + 1)) := by
  refine fn_ctrP (fn := Tryd.f24) (c := Tryd.f24.body.getD .skip) rfl rfl rfl fun x hx O w0 Q hq => ?_
  replace hq := hq _ rfl
  obtain ⟨hxn, hxs⟩ := hx
  have hds := Ex.depth_le_size x
  rw [Ex.depth_eq] at hq hds
  rw [Ex.size_eq] at hxn hxs hds
  obtain ⟨k, r, m, d, s⟩ := x
  simp only [Ex.sub] at hxn hxs hq hds
  refine SafeK.run (k := K24) hmix (G1c_ok ih) [1, 3, 4] 400 (T := Tree.leaf (Leaf2.loop (Prod.fst (lps K24 (0 : Nat))) (Prod.snd (lps K24 (0 : Nat))) [((1 : Nat), AV.ptr (0 : Nat) (0 : Nat)), ((3 : Nat), AV.int IntKind.i64 (0 : Int)), ((4 : Nat), AV.int IntKind.i64 (0 : Int))] [Blk.box [AV.int IntKind.u8 k, AV.str r, AV.str m, AV.int IntKind.i64 d, AV.sl (List.length s) (5 : Nat) (Ex.exG s)]])) (by kernel_rfl) ?_
  simp only [Tree.holds, Leafs2]
  have hlen := Ex.length_le_sizes s
  refine SafeK.loop (ι := {i : Nat // i ≤ s.length}) (fun i => SDr (Ex.depths (s.take i.1)) i.1) (fun _ => boxE k r m d s) (fun i => s.length - i.1) ⟨0, Nat.zero_le _⟩ 0 ?_ ?_ (by kernel_rfl)
  · exact ⟨by simp [SDr, Ex.depths], by simp [boxE, Ex.exS, eqG_refl], by kernel_rfl, Nat.zero_le _⟩
  · rintro ⟨i, hil⟩
    obtain ⟨c, hc⟩ : ∃ c, Ex.depths (s.take i) = c := ⟨_, rfl⟩
    simp only [hc]
    refine SafeK.run (k := inside K24 0) hmix (G1c_ok ih) [1, 3, 4] 400 (T := Tree.ite (decide ((↑i : Int) < (↑(List.length s) : Int))) (Tree.side ((0 : Int) ≤ (↑i : Int) ∧ (↑i : Int) < (↑(List.length s) : Int)) (Tree.ex (fun (x : Ex) => eqL [AV.agg [AV.int IntKind.u8 (Ex.kind (List.getD s (Int.toNat (↑i : Int)) Ex.nil)), AV.str (Ex.rat (List.getD s (Int.toNat (↑i : Int)) Ex.nil)), AV.str (Ex.name (List.getD s (Int.toNat (↑i : Int)) Ex.nil)), AV.int IntKind.i64 (Ex.date (List.getD s (Int.toNat (↑i : Int)) Ex.nil)), AV.sl (List.length (Ex.sub (List.getD s (Int.toNat (↑i : Int)) Ex.nil))) (5 : Nat) (Ex.deep (List.getD s (Int.toNat (↑i : Int)) Ex.nil))]] [AV.agg [AV.int IntKind.u8 (Ex.kind x), AV.str (Ex.rat x), AV.str (Ex.name x), AV.int IntKind.i64 (Ex.date x), AV.sl (List.length (Ex.sub x)) (5 : Nat) (Ex.exG (Ex.sub x))]] ∧ Ex.size x < n ∧ Ex.size x < (4611686018427387904 : Nat)) fun (n : Ex) => Tree.all (fun (r : Nat) => r = Ex.depth n) fun (n : Nat) => Tree.side (inR IntKind.i64 ((↑i : Int) + (1 : Int))) (Tree.leaf (Leaf2.back (0 : Nat) [((1 : Nat), AV.ptr (0 : Nat) (0 : Nat)), ((3 : Nat), AV.int IntKind.i64 (max (↑c : Int) (↑n : Int))), ((4 : Nat), AV.int IntKind.i64 ((↑i : Int) + (1 : Int)))] [Blk.box [AV.int IntKind.u8 k, AV.str r, AV.str m, AV.int IntKind.i64 d, AV.sl (List.length s) (5 : Nat) (Ex.exG s)]])))) (Tree.side (inR IntKind.i64 ((↑c : Int) + (1 : Int))) (Tree.leaf (Leaf2.ret [AV.int IntKind.i64 ((↑c : Int) + (1 : Int))] [Blk.box [AV.int IntKind.u8 k, AV.str r, AV.str m, AV.int IntKind.i64 d, AV.sl (List.length s) (5 : Nat) (Ex.exG s)]])))) (by kernel_rfl) ?_
    simp only [Tree.holds, Leafs2, inR, lo, hi, Int.toNat_natCast]
    refine ⟨fun hlt => ?_, fun hge => ?_⟩
    · have hlt : i < s.length := by have := of_decide_eq_true hlt; omega
      have hg := Ex.sizes_get hlt
      have ht := Ex.depths_take s i hlt
      refine ⟨by omega, fun _ => ⟨s.getD i Ex.nil, ⟨eqL_exA rfl rfl rfl rfl rfl (Ex.deep_eq _), by omega, by omega⟩, ⟨_, rfl⟩, ?_⟩⟩
      rintro _ rfl
      refine ⟨by omega, fun _ => ?_⟩
      rw [if_pos trivial]
      refine ⟨⟨i + 1, hlt⟩, by show s.length - (i + 1) < s.length - i; omega, ?_, by simp [boxE, Ex.exS, eqG_refl], by kernel_rfl, Nat.zero_le _⟩
      simp [SDr, ht, hc]; omega
    · have hge : i = s.length := by have := of_decide_eq_false hge; omega
      subst hge
      rw [List.take_length] at hc
      subst hc
      refine ⟨by omega, fun _ => ?_⟩
      exact RetR.scal hq rfl (by simp [resV]; omega)
theorem rdepth_ok : CtrOK Tryd.prog 24 (ctrP true (fun x : Ex => [x.exA]) (fun x => x.size < 2 ^ 62) (fun x r => r = x.depth) (fun _ (r : Nat) => (.int .i64 (r : Int), []))) := ctrP_rec Ex.size rdepth_step
end Go.Proofs.Tryd
end

/- Expressions: what the statements consider; the sorts. -/
section
set_option linter.unusedVariables false
set_option linter.unusedSimpArgs false
set_option maxRecDepth 100000
open Go Go.Sx Go.Proofs Go.Nov
namespace Go.Proofs.Tryd
attribute [local simp] eqKV eqA eqA0 eqH eqB eqL eqL0
noncomputable def K4 : List Go.Sx.Item := [.code (Tryd.f4.body.getD .skip)]
noncomputable def K27 : List Go.Sx.Item := [.code (Tryd.f27.body.getD .skip)]
noncomputable def K23 : List Go.Sx.Item := [.code (Tryd.f23.body.getD .skip)]
def countAll : Ctr := ctrP true (fun p : Ex × Nat × Nat => [p.1.exA, .int .i64 (p.2.1 : Int), .int .i64 (p.2.2 : Int)]) (fun p => p.2.1 < 2 ^ 40 ∧ p.2.2 < 2 ^ 40)
  (fun p (r : Nat × Bool) => 1 ≤ r.1 ∧ r.1 ≤ p.2.1 + 1 ∧ (r.2 = true → r.1 ≤ p.2.1 → r.1 = p.1.size)) (fun _ (r : Nat × Bool) => (.tup [.int .i64 (r.1 : Int), .bool r.2], []))
def bytesAll : Ctr := ctrP true (fun x : Ex => [x.exA]) (fun x => x.size < 2 ^ 60 ∧ x.bytesE < 2 ^ 60) (fun x r => r = x.bytesE) (fun _ (r : Nat) => (.int .i64 (r : Int), []))
def greatX : Ctr := ctrP true (fun x : Ex => [x.exA]) (fun x => x.thin) (fun x r => r = false → x.size ≤ 600 ∧ x.bytesE ≤ 3000) (fun _ (r : Bool) => (.bool r, []))
def GGt : Nat → Option Ctr := fun f => if f = 19 then some (countAll) else if f = 20 then some (bytesAll) else none
theorem GGt_ok : ∀ g c, GGt g = some c → CtrOK Tryd.prog g c := by
  intro g c h
  unfold GGt at h
  by_cases hg : g = 19
  · subst hg
    rw [if_pos rfl] at h
    cases h
    exact count_ok
  rw [if_neg hg] at h
  clear hg
  by_cases hg : g = 20
  · subst hg
    rw [if_pos rfl] at h
    cases h
    exact bytes_ok
  rw [if_neg hg] at h
  clear hg
  cases h

theorem greatX_ok : CtrOK Tryd.prog 4 greatX := by
  refine fn_ctrP (fn := Tryd.f4) (c := Tryd.f4.body.getD .skip) rfl rfl rfl fun x hx O w0 Q hq => ?_
  have hb := Ex.bytesE_le x hx
  obtain ⟨k, r, m, d, s⟩ := x
  refine SafeK.run (k := K4) hmix GGt_ok [] 400 (T := Tree.ex (fun (x : Ex × Nat × Nat) => eqL [AV.agg [AV.int IntKind.u8 k, AV.str r, AV.str m, AV.int IntKind.i64 d, AV.sl (List.length s) (5 : Nat) (Ex.exG s)], AV.int IntKind.i64 (600 : Int), AV.int IntKind.i64 (100 : Int)] [AV.agg [AV.int IntKind.u8 (Ex.kind (Prod.fst x)), AV.str (Ex.rat (Prod.fst x)), AV.str (Ex.name (Prod.fst x)), AV.int IntKind.i64 (Ex.date (Prod.fst x)), AV.sl (List.length (Ex.sub (Prod.fst x))) (5 : Nat) (Ex.exG (Ex.sub (Prod.fst x)))], AV.int IntKind.i64 (↑(Prod.fst (Prod.snd x)) : Int), AV.int IntKind.i64 (↑(Prod.snd (Prod.snd x)) : Int)] ∧ Prod.fst (Prod.snd x) < (1099511627776 : Nat) ∧ Prod.snd (Prod.snd x) < (1099511627776 : Nat)) fun (n : Ex × Nat × Nat) => Tree.all (fun (r : Nat × Bool) => (1 : Nat) ≤ Prod.fst r ∧ Prod.fst r ≤ Prod.fst (Prod.snd n) + (1 : Nat) ∧ (Prod.snd r = true → Prod.fst r ≤ Prod.fst (Prod.snd n) → Prod.fst r = Ex.size (Prod.fst n))) fun (n : Nat × Bool) => Tree.ex (fun (x : Ex) => (bif !Prod.snd n then true else decide ((600 : Int) < (↑(Prod.fst n) : Int))) = false → eqL [AV.agg [AV.int IntKind.u8 k, AV.str r, AV.str m, AV.int IntKind.i64 d, AV.sl (List.length s) (5 : Nat) (Ex.exG s)]] [AV.agg [AV.int IntKind.u8 (Ex.kind x), AV.str (Ex.rat x), AV.str (Ex.name x), AV.int IntKind.i64 (Ex.date x), AV.sl (List.length (Ex.sub x)) (5 : Nat) (Ex.exG (Ex.sub x))]] ∧ Ex.size x < (1152921504606846976 : Nat) ∧ Ex.bytesE x < (1152921504606846976 : Nat)) fun (n_1 : Ex) => Tree.all (fun (x : Nat) => (bif !Prod.snd n then true else decide ((600 : Int) < (↑(Prod.fst n) : Int))) = false → x = Ex.bytesE n_1) fun (n_2 : Nat) => Tree.leaf (Leaf2.ret [AV.bool (bif bif !Prod.snd n then true else decide ((600 : Int) < (↑(Prod.fst n) : Int)) then true else decide ((3000 : Int) < (↑n_2 : Int)))] [Blk.box [AV.int IntKind.u8 k, AV.str r, AV.str m, AV.int IntKind.i64 d, AV.sl (List.length s) (5 : Nat) (Ex.exG s)]])) (by kernel_rfl) ?_
  simp only [Tree.holds, Leafs2, inR, lo, hi, Int.toNat_natCast]
  refine ⟨(.mk k r m d s, 600, 100), ⟨⟨⟨⟨rfl, rfl⟩, rfl, rfl, ⟨rfl, rfl⟩, ⟨rfl, rfl, eqG_refl _ _ _⟩, trivial⟩, ⟨rfl, rfl⟩, ⟨rfl, rfl⟩, trivial⟩, by show 600 < 1099511627776; omega, by show 100 < 1099511627776; omega⟩, ⟨(1, false), Nat.le_refl _, by show 1 ≤ 600 + 1; omega, fun h => by cases h⟩, ?_⟩
  rintro ⟨c, b⟩ ⟨g1, g2, g3⟩
  simp only at g1 g2 g3
  have hsz : (bif !b then true else decide (600 < (c : Int))) = false → (Ex.mk k r m d s).size ≤ 600 := by
    intro h
    cases b with
    | false => cases h
    | true =>
      have h : ¬ 600 < (c : Int) := of_decide_eq_false h
      have := g3 rfl (by omega)
      omega
  refine ⟨.mk k r m d s, fun h => ⟨⟨⟨⟨rfl, rfl⟩, rfl, rfl, ⟨rfl, rfl⟩, ⟨rfl, rfl, eqG_refl _ _ _⟩, trivial⟩, trivial⟩, by have := hsz h; omega, by have := hsz h; omega⟩, ⟨_, fun _ => rfl⟩, ?_⟩
  intro c2 hc2
  refine RetR.scal (hq (bif (bif !b then true else decide (600 < (c : Int))) then true else decide (3000 < (c2 : Int))) fun h => ?_) rfl (by simp [resV])
  cases ht : (bif !b then true else decide (600 < (c : Int))) with
  | true => rw [ht] at h; cases h
  | false =>
    rw [ht] at h
    have h2 := hc2 ht
    have h : ¬ 3000 < (c2 : Int) := of_decide_eq_false h
    exact ⟨hsz ht, by omega⟩
def leafC : Ctr := ctrP true (fun x : Ex => [x.exA]) (fun x => x.rat.length < 2 ^ 40 ∧ x.name.length < 2 ^ 40) (fun x r => r = bif leafB x.kind x.rat x.name x.date x.sub.length then 1 else 0) (fun _ (r : Int) => (.int .u8 r, []))
def GLf : Nat → Option Ctr := fun f => if f = 30 then some (qcheckC) else if f = 6 then some (nameC) else if f = 31 then some (withinC) else none
theorem GLf_ok : ∀ g c, GLf g = some c → CtrOK Tryd.prog g c := by
  intro g c h
  unfold GLf at h
  by_cases hg : g = 30
  · subst hg
    rw [if_pos rfl] at h
    cases h
    exact qcheck_ok
  rw [if_neg hg] at h
  clear hg
  by_cases hg : g = 6
  · subst hg
    rw [if_pos rfl] at h
    cases h
    exact name_ok
  rw [if_neg hg] at h
  clear hg
  by_cases hg : g = 31
  · subst hg
    rw [if_pos rfl] at h
    cases h
    exact within_ok
  rw [if_neg hg] at h
  clear hg
  cases h

theorem leaf_ok : CtrOK Tryd.prog 27 leafC := by
  refine fn_ctrP (fn := Tryd.f27) (c := Tryd.f27.body.getD .skip) rfl rfl rfl fun x hx O w0 Q hq => ?_
  obtain ⟨k, r, m, d, s⟩ := x
  replace hq := hq _ rfl
  obtain ⟨h1, h2⟩ := hx
  simp only [Ex.rat, Ex.name, Ex.kind, Ex.date, Ex.sub] at h1 h2 hq
  refine SafeK.run (k := K27) hmix GLf_ok [] 400 (T := Tree.ite (decide (k = (1 : Int))) (Tree.ex (fun (x : List UInt8) => decide ((↑(List.length s) : Int) = (0 : Int)) = true → eqL [AV.str r] [AV.str x] ∧ List.length x < (4611686018427387904 : Nat)) fun (n : List UInt8) => Tree.all (fun (x : Int) => decide ((↑(List.length s) : Int) = (0 : Int)) = true → x = errR n) fun (n : Int) => Tree.ite (!bif bif bif decide ((↑(List.length s) : Int) = (0 : Int)) then decide (n = (0 : Int)) else false then decide (m = Array.toList #[]) else false then decide (d = (0 : Int)) else false) (Tree.leaf (Leaf2.ret [AV.int IntKind.u8 (0 : Int)] [Blk.box [AV.int IntKind.u8 k, AV.str r, AV.str m, AV.int IntKind.i64 d, AV.sl (List.length s) (5 : Nat) (Ex.exG s)]])) (Tree.leaf (Leaf2.ret [AV.int IntKind.u8 (1 : Int)] [Blk.box [AV.int IntKind.u8 k, AV.str r, AV.str m, AV.int IntKind.i64 d, AV.sl (List.length s) (5 : Nat) (Ex.exG s)]]))) (Tree.ite (decide (k = (2 : Int))) (Tree.ex (fun (x : List UInt8) => (bif decide ((↑(List.length s) : Int) = (0 : Int)) then decide (r = Array.toList #[]) else false) = true → eqL [AV.str m] [AV.str x] ∧ List.length x < (4611686018427387904 : Nat)) fun (n : List UInt8) => Tree.all (fun (x : Bool) => (bif decide ((↑(List.length s) : Int) = (0 : Int)) then decide (r = Array.toList #[]) else false) = true → x = nameB n) fun (n : Bool) => Tree.ex (fun (x : Int) => (bif bif decide ((↑(List.length s) : Int) = (0 : Int)) then decide (r = Array.toList #[]) else false then n else false) = true → eqL [AV.int IntKind.i64 d] [AV.int IntKind.i64 x] ∧ True) fun (n_1 : Int) => Tree.all (fun (x : Bool) => (bif bif decide ((↑(List.length s) : Int) = (0 : Int)) then decide (r = Array.toList #[]) else false then n else false) = true → x = dayB n_1) fun (n_2 : Bool) => Tree.ite (!bif bif bif decide ((↑(List.length s) : Int) = (0 : Int)) then decide (r = Array.toList #[]) else false then n else false then n_2 else false) (Tree.leaf (Leaf2.ret [AV.int IntKind.u8 (0 : Int)] [Blk.box [AV.int IntKind.u8 k, AV.str r, AV.str m, AV.int IntKind.i64 d, AV.sl (List.length s) (5 : Nat) (Ex.exG s)]])) (Tree.leaf (Leaf2.ret [AV.int IntKind.u8 (1 : Int)] [Blk.box [AV.int IntKind.u8 k, AV.str r, AV.str m, AV.int IntKind.i64 d, AV.sl (List.length s) (5 : Nat) (Ex.exG s)]]))) (Tree.ite (decide (k = (3 : Int))) (Tree.ex (fun (x : List UInt8) => (bif decide ((↑(List.length s) : Int) = (0 : Int)) then decide (r = Array.toList #[]) else false) = true → eqL [AV.str m] [AV.str x] ∧ List.length x < (4611686018427387904 : Nat)) fun (n : List UInt8) => Tree.all (fun (x : Bool) => (bif decide ((↑(List.length s) : Int) = (0 : Int)) then decide (r = Array.toList #[]) else false) = true → x = nameB n) fun (n : Bool) => Tree.ite (!bif bif bif decide ((↑(List.length s) : Int) = (0 : Int)) then decide (r = Array.toList #[]) else false then n else false then decide (d = (0 : Int)) else false) (Tree.leaf (Leaf2.ret [AV.int IntKind.u8 (0 : Int)] [Blk.box [AV.int IntKind.u8 k, AV.str r, AV.str m, AV.int IntKind.i64 d, AV.sl (List.length s) (5 : Nat) (Ex.exG s)]])) (Tree.leaf (Leaf2.ret [AV.int IntKind.u8 (1 : Int)] [Blk.box [AV.int IntKind.u8 k, AV.str r, AV.str m, AV.int IntKind.i64 d, AV.sl (List.length s) (5 : Nat) (Ex.exG s)]]))) (Tree.ite true (Tree.leaf (Leaf2.ret [AV.int IntKind.u8 (0 : Int)] [Blk.box [AV.int IntKind.u8 k, AV.str r, AV.str m, AV.int IntKind.i64 d, AV.sl (List.length s) (5 : Nat) (Ex.exG s)]])) (Tree.leaf (Leaf2.ret [AV.int IntKind.u8 (1 : Int)] [Blk.box [AV.int IntKind.u8 k, AV.str r, AV.str m, AV.int IntKind.i64 d, AV.sl (List.length s) (5 : Nat) (Ex.exG s)]])))))) (by kernel_rfl) ?_
  simp only [Tree.holds, Leafs2, inR, lo, hi, Int.toNat_natCast]
  have fin : ∀ T : Bool, T = leafB k r m d s.length → ((!T) = true → Q (.int .u8 0, [])) ∧ ((!T) = false → Q (.int .u8 1, [])) := by
    intro T hT
    subst hT
    cases hl : leafB k r m d s.length with
    | true => rw [hl] at hq; exact ⟨fun h => (by cases h), fun _ => hq⟩
    | false => rw [hl] at hq; exact ⟨fun _ => hq, fun h => (by cases h)⟩
  refine ⟨fun hk => ?_, fun hk => ?_⟩
  · have hk : k = 1 := of_decide_eq_true hk
    refine ⟨r, fun _ => ⟨by simp, by omega⟩, ⟨_, fun _ => rfl⟩, ?_⟩
    intro e he
    have F := fin (bif bif bif decide ((s.length : Int) = 0) then decide (e = 0) else false then decide (m = []) else false then decide (d = 0) else false) (by
      by_cases hl : s.length = 0
      · have := he (by simp [hl])
        subst this
        simp [leafB, hk, hl, Bool.and_assoc]
      · simp [leafB, hl])
    exact ⟨fun h => RetR.scal (F.1 h) rfl (by simp [resV]), fun h => RetR.scal (F.2 h) rfl (by simp [resV])⟩
  · have hk1 : k ≠ 1 := of_decide_eq_false hk
    refine ⟨fun hk => ?_, fun hk => ?_⟩
    · have hk : k = 2 := of_decide_eq_true hk
      refine ⟨m, fun _ => ⟨by simp, by omega⟩, ⟨_, fun _ => rfl⟩, ?_⟩
      intro e he
      refine ⟨d, fun _ => ⟨by simp, trivial⟩, ⟨_, fun _ => rfl⟩, ?_⟩
      intro f hf
      have F := fin (bif bif bif decide ((s.length : Int) = 0) then decide (r = []) else false then e else false then f else false) (by
        by_cases hl : s.length = 0
        · by_cases hr : r = []
          · have := he (by simp [hl, hr])
            subst this
            cases hn : nameB m with
            | true =>
              have := hf (by simp [hl, hr, hn])
              subst this
              simp [leafB, hk, hl, hr, hn]
            | false => simp [leafB, hk, hl, hr, hn]
          · simp [leafB, hk, hl, hr]
        · simp [leafB, hl])
      exact ⟨fun h => RetR.scal (F.1 h) rfl (by simp [resV]), fun h => RetR.scal (F.2 h) rfl (by simp [resV])⟩
    · have hk2 : k ≠ 2 := of_decide_eq_false hk
      refine ⟨fun hk => ?_, fun hk => ?_⟩
      · have hk : k = 3 := of_decide_eq_true hk
        refine ⟨m, fun _ => ⟨by simp, by omega⟩, ⟨_, fun _ => rfl⟩, ?_⟩
        intro e he
        have F := fin (bif bif bif decide ((s.length : Int) = 0) then decide (r = []) else false then e else false then decide (d = 0) else false) (by
          by_cases hl : s.length = 0
          · by_cases hr : r = []
            · have := he (by simp [hl, hr])
              subst this
              simp [leafB, hk, hl, hr]
            · simp [leafB, hk, hl, hr]
          · simp [leafB, hl])
        exact ⟨fun h => RetR.scal (F.1 h) rfl (by simp [resV]), fun h => RetR.scal (F.2 h) rfl (by simp [resV])⟩
      · have hk3 : k ≠ 3 := of_decide_eq_false hk
        have F := fin false (by simp [leafB, hk1, hk2, hk3])
        exact ⟨fun h => RetR.scal (F.1 rfl) rfl (by simp [resV]), fun h => by cases h⟩
def SSo (s : List Ex) (i : Nat) : KV := [(3, .ptr 1 0), (41, Ex.exS s), (42, .int .i64 (s.length : Int)), (43, .int .i64 (i : Int))]
def HSo (k : Int) : Heap := [.dead, .box [.sl (shpLen k) 1 fun j _ => .int .u8 (shpPart k j), .int .u8 (shpOwn k)]]
def sortC (n : Nat) : Ctr := ctrP true (fun x : Ex => [x.exA]) (fun x => x.size < n ∧ x.size < 2 ^ 60 ∧ x.bytesE < 2 ^ 40) (fun x r => r = x.sortE) (fun _ (r : Int) => (.int .u8 r, []))
def GSo (n : Nat) : Nat → Option Ctr := fun f => if f = 23 then some (sortC n) else if f = 27 then some leafC else none
theorem GSo_ok {n : Nat} (h : CtrOK Tryd.prog 23 (sortC n)) : ∀ f c, GSo n f = some c → CtrOK Tryd.prog f c := by
  intro f c hf
  simp only [GSo] at hf
  split at hf
  · rename_i hg; subst hg; cases hf; exact h
  · split at hf
    · rename_i hg; subst hg; cases hf; exact leaf_ok
    · cases hf

theorem sort_step (n : Nat) (ih : CtrOK Tryd.prog 23 (sortC n)) : CtrOK Tryd.prog 23 (sortC (n + 1)) := by
  refine fn_ctrP (fn := Tryd.f23) (c := Tryd.f23.body.getD .skip) rfl rfl rfl fun x hx O w0 Q hq => ?_
  replace hq := hq _ rfl
  obtain ⟨hxn, hxs, hxb⟩ := hx
  rw [Ex.size_eq] at hxn hxs
  rw [Ex.bytesE_eq] at hxb
  rw [Ex.sortE_eq] at hq
  obtain ⟨k, r, m, d, s⟩ := x
  simp only [Ex.sub, Ex.rat, Ex.name, Ex.kind, Ex.date] at hxn hxs hq hxb
  refine SafeK.run (k := K23) hmix (GSo_ok ih) [3, 41, 42, 43] 400 (T := Tree.ite (shpHas k) (Tree.ite false (Tree.ex (fun (x : Ex) => eqL [AV.agg [AV.int IntKind.u8 k, AV.str r, AV.str m, AV.int IntKind.i64 d, AV.sl (List.length s) (5 : Nat) (Ex.exG s)]] [AV.agg [AV.int IntKind.u8 (Ex.kind x), AV.str (Ex.rat x), AV.str (Ex.name x), AV.int IntKind.i64 (Ex.date x), AV.sl (List.length (Ex.sub x)) (5 : Nat) (Ex.exG (Ex.sub x))]] ∧ List.length (Ex.rat x) < (1099511627776 : Nat) ∧ List.length (Ex.name x) < (1099511627776 : Nat)) fun (n : Ex) => Tree.all (fun (r : Int) => r = bif leafB (Ex.kind n) (Ex.rat n) (Ex.name n) (Ex.date n) (List.length (Ex.sub n)) then (1 : Int) else (0 : Int)) fun (n : Int) => Tree.leaf (Leaf2.ret [AV.int IntKind.u8 n] [Blk.box [AV.int IntKind.u8 k, AV.str r, AV.str m, AV.int IntKind.i64 d, AV.sl (List.length s) (5 : Nat) (Ex.exG s)], Blk.box [AV.sl (shpLen k) (1 : Nat) fun (j x : Nat) => AV.int IntKind.u8 (shpPart k j), AV.int IntKind.u8 (shpOwn k)]])) (Tree.ite (bif bif bif !decide ((↑(List.length s) : Int) = (↑(shpLen k) : Int)) then true else !decide (r = Array.toList #[]) then true else !decide (m = Array.toList #[]) then true else !decide (d = (0 : Int))) (Tree.leaf (Leaf2.ret [AV.int IntKind.u8 (0 : Int)] [Blk.box [AV.int IntKind.u8 k, AV.str r, AV.str m, AV.int IntKind.i64 d, AV.sl (List.length s) (5 : Nat) (Ex.exG s)], Blk.box [AV.sl (shpLen k) (1 : Nat) fun (j x : Nat) => AV.int IntKind.u8 (shpPart k j), AV.int IntKind.u8 (shpOwn k)]])) (Tree.leaf (Leaf2.loop (Prod.fst (lps K23 (0 : Nat))) (Prod.snd (lps K23 (0 : Nat))) [((3 : Nat), AV.ptr (1 : Nat) (0 : Nat)), ((41 : Nat), AV.sl (List.length s) (5 : Nat) (Ex.exG s)), ((42 : Nat), AV.int IntKind.i64 (↑(List.length s) : Int)), ((43 : Nat), AV.int IntKind.i64 (0 : Int))] [Blk.box [AV.int IntKind.u8 k, AV.str r, AV.str m, AV.int IntKind.i64 d, AV.sl (List.length s) (5 : Nat) (Ex.exG s)], Blk.box [AV.sl (shpLen k) (1 : Nat) fun (j x : Nat) => AV.int IntKind.u8 (shpPart k j), AV.int IntKind.u8 (shpOwn k)]])))) (Tree.ite true (Tree.ex (fun (x : Ex) => eqL [AV.agg [AV.int IntKind.u8 k, AV.str r, AV.str m, AV.int IntKind.i64 d, AV.sl (List.length s) (5 : Nat) (Ex.exG s)]] [AV.agg [AV.int IntKind.u8 (Ex.kind x), AV.str (Ex.rat x), AV.str (Ex.name x), AV.int IntKind.i64 (Ex.date x), AV.sl (List.length (Ex.sub x)) (5 : Nat) (Ex.exG (Ex.sub x))]] ∧ List.length (Ex.rat x) < (1099511627776 : Nat) ∧ List.length (Ex.name x) < (1099511627776 : Nat)) fun (n : Ex) => Tree.all (fun (r : Int) => r = bif leafB (Ex.kind n) (Ex.rat n) (Ex.name n) (Ex.date n) (List.length (Ex.sub n)) then (1 : Int) else (0 : Int)) fun (n : Int) => Tree.leaf (Leaf2.ret [AV.int IntKind.u8 n] [Blk.box [AV.int IntKind.u8 k, AV.str r, AV.str m, AV.int IntKind.i64 d, AV.sl (List.length s) (5 : Nat) (Ex.exG s)], Blk.box [AV.nils, AV.int IntKind.u8 (0 : Int)]])) (Tree.ite (bif bif bif !decide ((↑(List.length s) : Int) = (0 : Int)) then true else !decide (r = Array.toList #[]) then true else !decide (m = Array.toList #[]) then true else !decide (d = (0 : Int))) (Tree.leaf (Leaf2.ret [AV.int IntKind.u8 (0 : Int)] [Blk.box [AV.int IntKind.u8 k, AV.str r, AV.str m, AV.int IntKind.i64 d, AV.sl (List.length s) (5 : Nat) (Ex.exG s)], Blk.box [AV.nils, AV.int IntKind.u8 (0 : Int)]])) (Tree.leaf (Leaf2.loop (Prod.fst (lps K23 (0 : Nat))) (Prod.snd (lps K23 (0 : Nat))) [((3 : Nat), AV.ptr (1 : Nat) (0 : Nat)), ((41 : Nat), AV.sl (List.length s) (5 : Nat) (Ex.exG s)), ((42 : Nat), AV.int IntKind.i64 (↑(List.length s) : Int)), ((43 : Nat), AV.int IntKind.i64 (0 : Int))] [Blk.box [AV.int IntKind.u8 k, AV.str r, AV.str m, AV.int IntKind.i64 d, AV.sl (List.length s) (5 : Nat) (Ex.exG s)], Blk.box [AV.nils, AV.int IntKind.u8 (0 : Int)]]))))) (by kernel_rfl) ?_
  simp only [Tree.holds, Leafs2, inR, lo, hi, Int.toNat_natCast]
  refine ⟨fun hk => ⟨fun h => (by cases h), fun _ => ⟨fun h => ?_, fun h => ?_⟩⟩, fun hk => ?_⟩
  · have hn : ¬ (r = [] ∧ m = [] ∧ d = 0 ∧ Ex.sorts s = shpParts k) := by
      rintro ⟨rfl, rfl, rfl, h4⟩
      have : s.length = shpLen k := by rw [← Ex.sorts_length, h4]; rfl
      simp [this] at h
    have e : sortN k r m d (Ex.sorts s) = 0 := by unfold sortN; rw [if_pos hk, if_neg hn]
    exact RetR.scal hq rfl (by simp [resV, e])
  · have hh : s.length = shpLen k ∧ r = [] ∧ m = [] ∧ d = 0 := by
      simp at h
      obtain ⟨⟨⟨h1, h2⟩, h3⟩, h4⟩ := h
      exact ⟨by omega, h2, h3, h4⟩
    obtain ⟨hl, rfl, rfl, rfl⟩ := hh
    have hlen := Ex.length_le_sizes s
    have e1 : sortN k [] [] 0 (Ex.sorts s) = if Ex.sorts s = shpParts k then shpOwn k else 0 := by unfold sortN; rw [if_pos hk]; simp
    rw [e1] at hq
    clear h e1
    refine SafeK.loop (ι := {i : Nat // i ≤ s.length ∧ ∀ j, j < i → (s.getD j Ex.nil).sortE = shpPart k j}) (fun i => SSo s i.1) (fun _ => HSo k) (fun i => s.length - i.1) ⟨0, Nat.zero_le _, fun j hj => by omega⟩ 0 ?_ ?_ (by kernel_rfl)
    · exact ⟨by simp [SSo, Ex.exS, eqG_refl], by simp [HSo, eqG_refl], by kernel_rfl, Nat.zero_le _⟩
    · rintro ⟨i, hil, hib⟩
      refine SafeK.run (k := inside K23 0) hmix (GSo_ok ih) [3, 41, 42, 43] 400 (T := Tree.ite (decide ((↑i : Int) < (↑(List.length s) : Int))) (Tree.side ((0 : Int) ≤ (↑i : Int) ∧ (↑i : Int) < (↑(List.length s) : Int)) (Tree.side ((0 : Int) ≤ (↑i : Int) ∧ (↑i : Int) < (↑(shpLen k) : Int)) (Tree.ex (fun (x : Ex) => eqL [AV.agg [AV.int IntKind.u8 (Ex.kind (List.getD s (Int.toNat (↑i : Int)) Ex.nil)), AV.str (Ex.rat (List.getD s (Int.toNat (↑i : Int)) Ex.nil)), AV.str (Ex.name (List.getD s (Int.toNat (↑i : Int)) Ex.nil)), AV.int IntKind.i64 (Ex.date (List.getD s (Int.toNat (↑i : Int)) Ex.nil)), AV.sl (List.length (Ex.sub (List.getD s (Int.toNat (↑i : Int)) Ex.nil))) (5 : Nat) (Ex.deep (List.getD s (Int.toNat (↑i : Int)) Ex.nil))]] [AV.agg [AV.int IntKind.u8 (Ex.kind x), AV.str (Ex.rat x), AV.str (Ex.name x), AV.int IntKind.i64 (Ex.date x), AV.sl (List.length (Ex.sub x)) (5 : Nat) (Ex.exG (Ex.sub x))]] ∧ Ex.size x < n ∧ Ex.size x < (1152921504606846976 : Nat) ∧ Ex.bytesE x < (1099511627776 : Nat)) fun (n : Ex) => Tree.all (fun (r : Int) => r = Ex.sortE n) fun (n : Int) => Tree.ite (!decide (n = shpPart k (Int.toNat (↑i : Int)))) (Tree.leaf (Leaf2.ret [AV.int IntKind.u8 (0 : Int)] [Blk.dead, Blk.box [AV.sl (shpLen k) (1 : Nat) fun (j x : Nat) => AV.int IntKind.u8 (shpPart k j), AV.int IntKind.u8 (shpOwn k)], Blk.box [AV.int IntKind.u8 (Ex.kind (List.getD s (Int.toNat (↑i : Int)) Ex.nil)), AV.str (Ex.rat (List.getD s (Int.toNat (↑i : Int)) Ex.nil)), AV.str (Ex.name (List.getD s (Int.toNat (↑i : Int)) Ex.nil)), AV.int IntKind.i64 (Ex.date (List.getD s (Int.toNat (↑i : Int)) Ex.nil)), AV.sl (List.length (Ex.sub (List.getD s (Int.toNat (↑i : Int)) Ex.nil))) (5 : Nat) (Ex.deep (List.getD s (Int.toNat (↑i : Int)) Ex.nil))]])) (Tree.side (inR IntKind.i64 ((↑i : Int) + (1 : Int))) (Tree.leaf (Leaf2.back (0 : Nat) [((3 : Nat), AV.ptr (1 : Nat) (0 : Nat)), ((41 : Nat), AV.sl (List.length s) (5 : Nat) (Ex.exG s)), ((42 : Nat), AV.int IntKind.i64 (↑(List.length s) : Int)), ((43 : Nat), AV.int IntKind.i64 ((↑i : Int) + (1 : Int)))] [Blk.dead, Blk.box [AV.sl (shpLen k) (1 : Nat) fun (j x : Nat) => AV.int IntKind.u8 (shpPart k j), AV.int IntKind.u8 (shpOwn k)], Blk.box [AV.int IntKind.u8 (Ex.kind (List.getD s (Int.toNat (↑i : Int)) Ex.nil)), AV.str (Ex.rat (List.getD s (Int.toNat (↑i : Int)) Ex.nil)), AV.str (Ex.name (List.getD s (Int.toNat (↑i : Int)) Ex.nil)), AV.int IntKind.i64 (Ex.date (List.getD s (Int.toNat (↑i : Int)) Ex.nil)), AV.sl (List.length (Ex.sub (List.getD s (Int.toNat (↑i : Int)) Ex.nil))) (5 : Nat) (Ex.deep (List.getD s (Int.toNat (↑i : Int)) Ex.nil))]])))))) (Tree.leaf (Leaf2.ret [AV.int IntKind.u8 (shpOwn k)] [Blk.dead, Blk.box [AV.sl (shpLen k) (1 : Nat) fun (j x : Nat) => AV.int IntKind.u8 (shpPart k j), AV.int IntKind.u8 (shpOwn k)]]))) (by kernel_rfl) ?_
      simp only [Tree.holds, Leafs2, inR, lo, hi, Int.toNat_natCast]
      refine ⟨fun hlt => ?_, fun hge => ?_⟩
      · have hlt : i < s.length := by have := of_decide_eq_true hlt; omega
        have hg := Ex.sizes_get hlt
        have hg2 := Ex.bytesL_get hlt
        have hb0 : Ex.bytesL s < 2 ^ 40 := by simpa using hxb
        refine ⟨by omega, fun _ => ⟨by omega, fun _ => ⟨s.getD i Ex.nil, ⟨eqL_exA rfl rfl rfl rfl rfl (Ex.deep_eq _), by omega, by omega, by omega⟩, ⟨_, rfl⟩, ?_⟩⟩⟩
        intro e he
        refine ⟨fun h => ?_, fun h => ⟨by omega, fun _ => ?_⟩⟩
        · have hne : ¬ Ex.sorts s = shpParts k := by
            intro h2
            have := (Ex.sorts_eq.1 h2).2 i hlt
            rw [← he] at this
            have h3 : ¬ e = shpPart k i := by simpa using h
            exact h3 this
          rw [if_neg hne] at hq
          exact RetR.scal hq rfl (by simp [resV])
        · rw [if_pos trivial]
          have h3 : e = shpPart k i := by simpa using h
          refine ⟨⟨i + 1, hlt, fun j hj => ?_⟩, by show s.length - (i + 1) < s.length - i; omega, by simp [SSo, Ex.exS, eqG_refl], by simp [HSo, eqG_refl], by kernel_rfl, Nat.zero_le _⟩
          rcases Nat.lt_or_ge j i with h1 | h1
          · exact hib j h1
          · have : j = i := by omega
            rw [this, ← he, h3]
      · have hge : i = s.length := by have := of_decide_eq_false hge; omega
        subst hge
        have : Ex.sorts s = shpParts k := Ex.sorts_eq.2 ⟨hl, hib⟩
        rw [if_pos this] at hq
        exact RetR.scal hq rfl (by simp [resV])
  · refine ⟨fun _ => ?_, fun h => (by cases h)⟩
    refine ⟨.mk k r m d s, ⟨⟨⟨⟨rfl, rfl⟩, rfl, rfl, ⟨rfl, rfl⟩, ⟨rfl, rfl, eqG_refl _ _ _⟩, trivial⟩, trivial⟩, by show r.length < _; omega, by show m.length < _; omega⟩, ⟨_, rfl⟩, ?_⟩
    intro e he
    have e1 : sortN k r m d (Ex.sorts s) = e := by
      unfold sortN
      rw [if_neg (by rw [hk]; decide), he, Ex.sorts_length]
      show _ = bif leafB k r m d s.length then 1 else 0
      cases leafB k r m d s.length <;> rfl
    rw [e1] at hq
    exact RetR.scal hq rfl (by simp [resV])
def sortAll : Ctr := ctrP true (fun x : Ex => [x.exA]) (fun x => x.size < 2 ^ 60 ∧ x.bytesE < 2 ^ 40) (fun x r => r = x.sortE) (fun _ (r : Int) => (.int .u8 r, []))
theorem sort_ok : CtrOK Tryd.prog 23 sortAll := ctrP_rec Ex.size sort_step
end Go.Proofs.Tryd
end

/- Expressions: the reference's sorts. -/
section
set_option linter.unusedVariables false
set_option linter.unusedSimpArgs false
set_option maxRecDepth 100000
open Go Go.Sx Go.Proofs Go.Nov
namespace Go.Proofs.Tryd
attribute [local simp] eqKV eqA eqA0 eqH eqB eqL eqL0
noncomputable def K25 : List Go.Sx.Item := [.code (Tryd.f25.body.getD .skip)]
def rsortC (n : Nat) : Ctr := ctrP true (fun x : Ex => [x.exA]) (fun x => x.size < n ∧ x.size < 2 ^ 40 ∧ x.bytesE < 2 ^ 40) (fun x r => r = x.sortE) (fun _ (r : Int) => (.int .i64 r, []))
def GRs (n : Nat) : Nat → Option Ctr := fun f => if f = 25 then some (rsortC n) else if f = 28 then some qrcheckC else if f = 7 then some nameC else if f = 29 then some withinC else none
theorem GRs_ok {n : Nat} (h : CtrOK Tryd.prog 25 (rsortC n)) : ∀ f c, GRs n f = some c → CtrOK Tryd.prog f c := by
  intro f c hf
  simp only [GRs] at hf
  by_cases hg : f = 25
  · subst hg; rw [if_pos rfl] at hf; cases hf; exact h
  rw [if_neg hg] at hf
  by_cases hg : f = 28
  · subst hg; rw [if_pos rfl] at hf; cases hf; exact qrcheck_ok
  rw [if_neg hg] at hf
  by_cases hg : f = 7
  · subst hg; rw [if_pos rfl] at hf; cases hf; exact rname_ok
  rw [if_neg hg] at hf
  by_cases hg : f = 29
  · subst hg; rw [if_pos rfl] at hf; cases hf; exact rday_ok
  rw [if_neg hg] at hf
  cases hf
def SRs (b : Bool) (i : Nat) : KV := [(1, .ptr 0 0), (3, .bool b), (4, .osl 1 1 0 i), (5, .int .i64 (i : Int)), (43, .undef), (44, .undef), (47, .undef), (48, .undef), (49, .undef), (52, .undef), (53, .undef), (54, .undef), (57, .undef), (58, .undef), (59, .undef), (60, .undef), (67, .undef), (68, .undef), (71, .undef), (72, .undef), (73, .undef), (76, .undef), (77, .undef), (78, .undef), (81, .undef), (82, .undef), (83, .undef), (90, .undef), (91, .undef), (94, .undef), (95, .undef), (96, .undef), (99, .undef), (100, .undef), (101, .undef), (104, .undef), (105, .undef), (106, .undef), (113, .undef), (114, .undef), (115, .undef), (118, .undef), (121, .undef), (122, .undef), (125, .undef), (126, .undef), (127, .undef), (128, .undef), (131, .undef), (132, .undef), (133, .undef), (134, .undef), (141, .undef), (144, .undef), (145, .undef), (148, .undef), (149, .undef), (150, .undef), (151, .undef), (154, .undef), (155, .undef), (156, .undef), (157, .undef), (160, .undef), (161, .undef), (162, .undef), (163, .undef), (170, .undef), (171, .undef), (172, .undef), (175, .undef), (178, .undef), (179, .undef), (182, .undef), (183, .undef), (184, .undef), (185, .undef), (188, .undef), (189, .undef), (190, .undef), (191, .undef), (198, .undef), (199, .undef), (200, .undef), (203, .undef), (206, .undef), (207, .undef), (210, .undef), (211, .undef), (212, .undef), (213, .undef), (216, .undef), (217, .undef), (218, .undef), (219, .undef), (226, .undef), (229, .undef), (230, .undef), (233, .undef), (234, .undef), (235, .undef), (236, .undef)]
def HRs (k : Int) (r m : List UInt8) (d : Int) (s : List Ex) (l : List Int) (i : Nat) : Heap := [.box [.int .u8 k, .str r, .str m, .int .i64 d, Ex.exS s], .arr i 1 (intG l)]
theorem intG_push {l : List Int} {v : Int} {i : Nat} (hl : l.length = i) : eqG (i + 1) 1 (appG i (intG l) (viewG (listG 1 [.int .i64 v]) 0)) (intG (l ++ [v])) := by
  subst hl
  intro j o hj ho
  simp only [appG, viewG, listG, intG]
  by_cases h : j < l.length
  · rw [if_pos h]; simp [List.getD, List.getElem?_append_left h]
  · have : j = l.length := by omega
    subst this
    have : o = 0 := by omega
    subst this
    rw [if_neg h]; simp [List.getD]

theorem rsort_step (n : Nat) (ih : CtrOK Tryd.prog 25 (rsortC n)) : CtrOK Tryd.prog 25 (rsortC (n + 1)) := by
  refine fn_ctrP (fn := Tryd.f25) (c := Tryd.f25.body.getD .skip) rfl rfl rfl fun x hx O w0 Q hq => ?_
  replace hq := hq _ rfl
  obtain ⟨hxn, hxs, hxb⟩ := hx
  rw [Ex.size_eq] at hxn hxs
  rw [Ex.bytesE_eq] at hxb
  rw [Ex.sortE_eq] at hq
  obtain ⟨k, r, m, d, s⟩ := x
  simp only [Ex.sub, Ex.rat, Ex.name, Ex.kind, Ex.date] at hxn hxs hq hxb
  have hlen := Ex.length_le_sizes s
  refine SafeK.run (k := K25) hmix (GRs_ok ih) [1, 3, 4, 5, 43, 44, 47, 48, 49, 52, 53, 54, 57, 58, 59, 60, 67, 68, 71, 72, 73, 76, 77, 78, 81, 82, 83, 90, 91, 94, 95, 96, 99, 100, 101, 104, 105, 106, 113, 114, 115, 118, 121, 122, 125, 126, 127, 128, 131, 132, 133, 134, 141, 144, 145, 148, 149, 150, 151, 154, 155, 156, 157, 160, 161, 162, 163, 170, 171, 172, 175, 178, 179, 182, 183, 184, 185, 188, 189, 190, 191, 198, 199, 200, 203, 206, 207, 210, 211, 212, 213, 216, 217, 218, 219, 226, 229, 230, 233, 234, 235, 236] 400 (T := Tree.leaf (Leaf2.loop (Prod.fst (lps K25 (0 : Nat))) (Prod.snd (lps K25 (0 : Nat))) [((1 : Nat), AV.ptr (0 : Nat) (0 : Nat)), ((3 : Nat), AV.bool (bif bif decide (r = Array.toList #[]) then decide (m = Array.toList #[]) else false then decide (d = (0 : Int)) else false)), ((4 : Nat), AV.nils), ((5 : Nat), AV.int IntKind.i64 (0 : Int)), ((43 : Nat), AV.undef), ((44 : Nat), AV.undef), ((47 : Nat), AV.undef), ((48 : Nat), AV.undef), ((49 : Nat), AV.undef), ((52 : Nat), AV.undef), ((53 : Nat), AV.undef), ((54 : Nat), AV.undef), ((57 : Nat), AV.undef), ((58 : Nat), AV.undef), ((59 : Nat), AV.undef), ((60 : Nat), AV.undef), ((67 : Nat), AV.undef), ((68 : Nat), AV.undef), ((71 : Nat), AV.undef), ((72 : Nat), AV.undef), ((73 : Nat), AV.undef), ((76 : Nat), AV.undef), ((77 : Nat), AV.undef), ((78 : Nat), AV.undef), ((81 : Nat), AV.undef), ((82 : Nat), AV.undef), ((83 : Nat), AV.undef), ((90 : Nat), AV.undef), ((91 : Nat), AV.undef), ((94 : Nat), AV.undef), ((95 : Nat), AV.undef), ((96 : Nat), AV.undef), ((99 : Nat), AV.undef), ((100 : Nat), AV.undef), ((101 : Nat), AV.undef), ((104 : Nat), AV.undef), ((105 : Nat), AV.undef), ((106 : Nat), AV.undef), ((113 : Nat), AV.undef), ((114 : Nat), AV.undef), ((115 : Nat), AV.undef), ((118 : Nat), AV.undef), ((121 : Nat), AV.undef), ((122 : Nat), AV.undef), ((125 : Nat), AV.undef), ((126 : Nat), AV.undef), ((127 : Nat), AV.undef), ((128 : Nat), AV.undef), ((131 : Nat), AV.undef), ((132 : Nat), AV.undef), ((133 : Nat), AV.undef), ((134 : Nat), AV.undef), ((141 : Nat), AV.undef), ((144 : Nat), AV.undef), ((145 : Nat), AV.undef), ((148 : Nat), AV.undef), ((149 : Nat), AV.undef), ((150 : Nat), AV.undef), ((151 : Nat), AV.undef), ((154 : Nat), AV.undef), ((155 : Nat), AV.undef), ((156 : Nat), AV.undef), ((157 : Nat), AV.undef), ((160 : Nat), AV.undef), ((161 : Nat), AV.undef), ((162 : Nat), AV.undef), ((163 : Nat), AV.undef), ((170 : Nat), AV.undef), ((171 : Nat), AV.undef), ((172 : Nat), AV.undef), ((175 : Nat), AV.undef), ((178 : Nat), AV.undef), ((179 : Nat), AV.undef), ((182 : Nat), AV.undef), ((183 : Nat), AV.undef), ((184 : Nat), AV.undef), ((185 : Nat), AV.undef), ((188 : Nat), AV.undef), ((189 : Nat), AV.undef), ((190 : Nat), AV.undef), ((191 : Nat), AV.undef), ((198 : Nat), AV.undef), ((199 : Nat), AV.undef), ((200 : Nat), AV.undef), ((203 : Nat), AV.undef), ((206 : Nat), AV.undef), ((207 : Nat), AV.undef), ((210 : Nat), AV.undef), ((211 : Nat), AV.undef), ((212 : Nat), AV.undef), ((213 : Nat), AV.undef), ((216 : Nat), AV.undef), ((217 : Nat), AV.undef), ((218 : Nat), AV.undef), ((219 : Nat), AV.undef), ((226 : Nat), AV.undef), ((229 : Nat), AV.undef), ((230 : Nat), AV.undef), ((233 : Nat), AV.undef), ((234 : Nat), AV.undef), ((235 : Nat), AV.undef), ((236 : Nat), AV.undef)] [Blk.box [AV.int IntKind.u8 k, AV.str r, AV.str m, AV.int IntKind.i64 d, AV.sl (List.length s) (5 : Nat) (Ex.exG s)]])) (by kernel_rfl) ?_
  simp only [Tree.holds, Leafs2]
  refine SafeK.bear 4 1 (intG []) rfl (by decide) (by kernel_rfl) ?_
  refine SafeK.loop (ι := {i : Nat // i ≤ s.length}) (fun i => SRs (bareB r m d) i.1) (fun i => HRs k r m d s (Ex.sorts (s.take i.1)) i.1) (fun i => s.length - i.1) ⟨0, Nat.zero_le _⟩ 0 ?_ ?_ (by kernel_rfl)
  · exact ⟨by simp [SRs, setKV, bareB], by simp [HRs, Ex.exS, Ex.sorts, eqG_refl], by kernel_rfl, Nat.zero_le _⟩
  · rintro ⟨i, hil⟩
    obtain ⟨b, hb⟩ : ∃ b, bareB r m d = b := ⟨_, rfl⟩
    obtain ⟨l, hl⟩ : ∃ l, Ex.sorts (s.take i) = l := ⟨_, rfl⟩
    have hll : l.length = i := by rw [← hl, Ex.sorts_length, List.length_take]; omega
    simp only [hb, hl]
    refine SafeK.run (k := inside K25 0) hmix (GRs_ok ih) [1, 3, 4, 5, 43, 44, 47, 48, 49, 52, 53, 54, 57, 58, 59, 60, 67, 68, 71, 72, 73, 76, 77, 78, 81, 82, 83, 90, 91, 94, 95, 96, 99, 100, 101, 104, 105, 106, 113, 114, 115, 118, 121, 122, 125, 126, 127, 128, 131, 132, 133, 134, 141, 144, 145, 148, 149, 150, 151, 154, 155, 156, 157, 160, 161, 162, 163, 170, 171, 172, 175, 178, 179, 182, 183, 184, 185, 188, 189, 190, 191, 198, 199, 200, 203, 206, 207, 210, 211, 212, 213, 216, 217, 218, 219, 226, 229, 230, 233, 234, 235, 236] 400 (T := Tree.ite (decide ((↑i : Int) < (↑(List.length s) : Int))) (Tree.side ((0 : Int) ≤ (↑i : Int) ∧ (↑i : Int) < (↑(List.length s) : Int)) (Tree.ex (fun (x : Ex) => eqL [AV.agg [AV.int IntKind.u8 (Ex.kind (List.getD s (Int.toNat (↑i : Int)) Ex.nil)), AV.str (Ex.rat (List.getD s (Int.toNat (↑i : Int)) Ex.nil)), AV.str (Ex.name (List.getD s (Int.toNat (↑i : Int)) Ex.nil)), AV.int IntKind.i64 (Ex.date (List.getD s (Int.toNat (↑i : Int)) Ex.nil)), AV.sl (List.length (Ex.sub (List.getD s (Int.toNat (↑i : Int)) Ex.nil))) (5 : Nat) (Ex.deep (List.getD s (Int.toNat (↑i : Int)) Ex.nil))]] [AV.agg [AV.int IntKind.u8 (Ex.kind x), AV.str (Ex.rat x), AV.str (Ex.name x), AV.int IntKind.i64 (Ex.date x), AV.sl (List.length (Ex.sub x)) (5 : Nat) (Ex.exG (Ex.sub x))]] ∧ Ex.size x < n ∧ Ex.size x < (1099511627776 : Nat) ∧ Ex.bytesE x < (1099511627776 : Nat)) fun (n : Ex) => Tree.all (fun (r : Int) => r = Ex.sortE n) fun (n : Int) => Tree.side ((0 : Nat) = (0 : Nat) ∧ i ≤ i ∧ (i + (1 : Nat)) * (8 : Nat) ≤ (140737488355328 : Nat)) (Tree.side (inR IntKind.i64 ((↑i : Int) + (1 : Int))) (Tree.leaf (Leaf2.back (0 : Nat) [((1 : Nat), AV.ptr (0 : Nat) (0 : Nat)), ((3 : Nat), AV.bool b), ((4 : Nat), AV.osl (1 : Nat) (1 : Nat) (0 : Nat) (i + (1 : Nat))), ((5 : Nat), AV.int IntKind.i64 ((↑i : Int) + (1 : Int))), ((43 : Nat), AV.undef), ((44 : Nat), AV.undef), ((47 : Nat), AV.undef), ((48 : Nat), AV.undef), ((49 : Nat), AV.undef), ((52 : Nat), AV.undef), ((53 : Nat), AV.undef), ((54 : Nat), AV.undef), ((57 : Nat), AV.undef), ((58 : Nat), AV.undef), ((59 : Nat), AV.undef), ((60 : Nat), AV.undef), ((67 : Nat), AV.undef), ((68 : Nat), AV.undef), ((71 : Nat), AV.undef), ((72 : Nat), AV.undef), ((73 : Nat), AV.undef), ((76 : Nat), AV.undef), ((77 : Nat), AV.undef), ((78 : Nat), AV.undef), ((81 : Nat), AV.undef), ((82 : Nat), AV.undef), ((83 : Nat), AV.undef), ((90 : Nat), AV.undef), ((91 : Nat), AV.undef), ((94 : Nat), AV.undef), ((95 : Nat), AV.undef), ((96 : Nat), AV.undef), ((99 : Nat), AV.undef), ((100 : Nat), AV.undef), ((101 : Nat), AV.undef), ((104 : Nat), AV.undef), ((105 : Nat), AV.undef), ((106 : Nat), AV.undef), ((113 : Nat), AV.undef), ((114 : Nat), AV.undef), ((115 : Nat), AV.undef), ((118 : Nat), AV.undef), ((121 : Nat), AV.undef), ((122 : Nat), AV.undef), ((125 : Nat), AV.undef), ((126 : Nat), AV.undef), ((127 : Nat), AV.undef), ((128 : Nat), AV.undef), ((131 : Nat), AV.undef), ((132 : Nat), AV.undef), ((133 : Nat), AV.undef), ((134 : Nat), AV.undef), ((141 : Nat), AV.undef), ((144 : Nat), AV.undef), ((145 : Nat), AV.undef), ((148 : Nat), AV.undef), ((149 : Nat), AV.undef), ((150 : Nat), AV.undef), ((151 : Nat), AV.undef), ((154 : Nat), AV.undef), ((155 : Nat), AV.undef), ((156 : Nat), AV.undef), ((157 : Nat), AV.undef), ((160 : Nat), AV.undef), ((161 : Nat), AV.undef), ((162 : Nat), AV.undef), ((163 : Nat), AV.undef), ((170 : Nat), AV.undef), ((171 : Nat), AV.undef), ((172 : Nat), AV.undef), ((175 : Nat), AV.undef), ((178 : Nat), AV.undef), ((179 : Nat), AV.undef), ((182 : Nat), AV.undef), ((183 : Nat), AV.undef), ((184 : Nat), AV.undef), ((185 : Nat), AV.undef), ((188 : Nat), AV.undef), ((189 : Nat), AV.undef), ((190 : Nat), AV.undef), ((191 : Nat), AV.undef), ((198 : Nat), AV.undef), ((199 : Nat), AV.undef), ((200 : Nat), AV.undef), ((203 : Nat), AV.undef), ((206 : Nat), AV.undef), ((207 : Nat), AV.undef), ((210 : Nat), AV.undef), ((211 : Nat), AV.undef), ((212 : Nat), AV.undef), ((213 : Nat), AV.undef), ((216 : Nat), AV.undef), ((217 : Nat), AV.undef), ((218 : Nat), AV.undef), ((219 : Nat), AV.undef), ((226 : Nat), AV.undef), ((229 : Nat), AV.undef), ((230 : Nat), AV.undef), ((233 : Nat), AV.undef), ((234 : Nat), AV.undef), ((235 : Nat), AV.undef), ((236 : Nat), AV.undef)] [Blk.box [AV.int IntKind.u8 k, AV.str r, AV.str m, AV.int IntKind.i64 d, AV.sl (List.length s) (5 : Nat) (Ex.exG s)], Blk.arr (i + (1 : Nat)) (1 : Nat) (appG i (intG l) (viewG (listG (1 : Nat) [AV.int IntKind.i64 n]) (0 : Nat))), Blk.arr (1 : Nat) (1 : Nat) (listG (1 : Nat) [AV.int IntKind.i64 n])]))))) (Tree.ex (fun (x : List UInt8) => (bif bif bif decide (k = (1 : Int)) then decide ((↑i : Int) = (0 : Int)) else false then decide (m = Array.toList #[]) else false then decide (d = (0 : Int)) else false) = true → eqL [AV.str r] [AV.str x] ∧ List.length x < (1099511627776 : Nat)) fun (n : List UInt8) => Tree.all (fun (x : Int) => (bif bif bif decide (k = (1 : Int)) then decide ((↑i : Int) = (0 : Int)) else false then decide (m = Array.toList #[]) else false then decide (d = (0 : Int)) else false) = true → x = errR n) fun (n : Int) => Tree.ite (bif bif bif bif decide (k = (1 : Int)) then decide ((↑i : Int) = (0 : Int)) else false then decide (m = Array.toList #[]) else false then decide (d = (0 : Int)) else false then decide (n = (0 : Int)) else false) (Tree.leaf (Leaf2.ret [AV.int IntKind.i64 (1 : Int)] [Blk.box [AV.int IntKind.u8 k, AV.str r, AV.str m, AV.int IntKind.i64 d, AV.sl (List.length s) (5 : Nat) (Ex.exG s)], Blk.arr i (1 : Nat) (intG l)])) (Tree.ex (fun (x : List UInt8) => (bif bif decide (k = (2 : Int)) then decide ((↑i : Int) = (0 : Int)) else false then decide (r = Array.toList #[]) else false) = true → eqL [AV.str m] [AV.str x] ∧ List.length x < (4611686018427387904 : Nat)) fun (n : List UInt8) => Tree.all (fun (x : Bool) => (bif bif decide (k = (2 : Int)) then decide ((↑i : Int) = (0 : Int)) else false then decide (r = Array.toList #[]) else false) = true → x = nameB n) fun (n : Bool) => Tree.ex (fun (x : Int) => (bif bif bif decide (k = (2 : Int)) then decide ((↑i : Int) = (0 : Int)) else false then decide (r = Array.toList #[]) else false then n else false) = true → eqL [AV.int IntKind.i64 d] [AV.int IntKind.i64 x] ∧ True) fun (n_1 : Int) => Tree.all (fun (x : Bool) => (bif bif bif decide (k = (2 : Int)) then decide ((↑i : Int) = (0 : Int)) else false then decide (r = Array.toList #[]) else false then n else false) = true → x = dayB n_1) fun (n_2 : Bool) => Tree.ite (bif bif bif bif decide (k = (2 : Int)) then decide ((↑i : Int) = (0 : Int)) else false then decide (r = Array.toList #[]) else false then n else false then n_2 else false) (Tree.leaf (Leaf2.ret [AV.int IntKind.i64 (1 : Int)] [Blk.box [AV.int IntKind.u8 k, AV.str r, AV.str m, AV.int IntKind.i64 d, AV.sl (List.length s) (5 : Nat) (Ex.exG s)], Blk.arr i (1 : Nat) (intG l)])) (Tree.ex (fun (x : List UInt8) => (bif bif decide (k = (3 : Int)) then decide ((↑i : Int) = (0 : Int)) else false then decide (r = Array.toList #[]) else false) = true → eqL [AV.str m] [AV.str x] ∧ List.length x < (4611686018427387904 : Nat)) fun (n : List UInt8) => Tree.all (fun (x : Bool) => (bif bif decide (k = (3 : Int)) then decide ((↑i : Int) = (0 : Int)) else false then decide (r = Array.toList #[]) else false) = true → x = nameB n) fun (n : Bool) => Tree.ite (bif bif bif bif decide (k = (3 : Int)) then decide ((↑i : Int) = (0 : Int)) else false then decide (r = Array.toList #[]) else false then n else false then decide (d = (0 : Int)) else false) (Tree.leaf (Leaf2.ret [AV.int IntKind.i64 (1 : Int)] [Blk.box [AV.int IntKind.u8 k, AV.str r, AV.str m, AV.int IntKind.i64 d, AV.sl (List.length s) (5 : Nat) (Ex.exG s)], Blk.arr i (1 : Nat) (intG l)])) (Tree.side ((bif bif bif decide ((4 : Int) ≤ k) then decide (k ≤ (8 : Int)) else false then b else false then decide ((↑i : Int) = (2 : Int)) else false) = true → (0 : Int) ≤ (0 : Int) ∧ (0 : Int) < (↑i : Int)) (Tree.side ((bif bif bif bif decide ((4 : Int) ≤ k) then decide (k ≤ (8 : Int)) else false then b else false then decide ((↑i : Int) = (2 : Int)) else false then decide (List.getD l (0 : Nat) (0 : Int) = (1 : Int)) else false) = true → (0 : Int) ≤ (1 : Int) ∧ (1 : Int) < (↑i : Int)) (Tree.ite (bif bif bif bif bif decide ((4 : Int) ≤ k) then decide (k ≤ (8 : Int)) else false then b else false then decide ((↑i : Int) = (2 : Int)) else false then decide (List.getD l (0 : Nat) (0 : Int) = (1 : Int)) else false then decide (List.getD l (1 : Nat) (0 : Int) = (1 : Int)) else false) (Tree.leaf (Leaf2.ret [AV.int IntKind.i64 (1 : Int)] [Blk.box [AV.int IntKind.u8 k, AV.str r, AV.str m, AV.int IntKind.i64 d, AV.sl (List.length s) (5 : Nat) (Ex.exG s)], Blk.arr i (1 : Nat) (intG l)])) (Tree.side ((bif bif decide (k = (9 : Int)) then b else false then decide ((↑i : Int) = (3 : Int)) else false) = true → (0 : Int) ≤ (0 : Int) ∧ (0 : Int) < (↑i : Int)) (Tree.side ((bif bif bif decide (k = (9 : Int)) then b else false then decide ((↑i : Int) = (3 : Int)) else false then decide (List.getD l (0 : Nat) (0 : Int) = (2 : Int)) else false) = true → (0 : Int) ≤ (1 : Int) ∧ (1 : Int) < (↑i : Int)) (Tree.side ((bif bif bif bif decide (k = (9 : Int)) then b else false then decide ((↑i : Int) = (3 : Int)) else false then decide (List.getD l (0 : Nat) (0 : Int) = (2 : Int)) else false then decide (List.getD l (1 : Nat) (0 : Int) = (1 : Int)) else false) = true → (0 : Int) ≤ (2 : Int) ∧ (2 : Int) < (↑i : Int)) (Tree.ite (bif bif bif bif bif decide (k = (9 : Int)) then b else false then decide ((↑i : Int) = (3 : Int)) else false then decide (List.getD l (0 : Nat) (0 : Int) = (2 : Int)) else false then decide (List.getD l (1 : Nat) (0 : Int) = (1 : Int)) else false then decide (List.getD l (2 : Nat) (0 : Int) = (1 : Int)) else false) (Tree.leaf (Leaf2.ret [AV.int IntKind.i64 (1 : Int)] [Blk.box [AV.int IntKind.u8 k, AV.str r, AV.str m, AV.int IntKind.i64 d, AV.sl (List.length s) (5 : Nat) (Ex.exG s)], Blk.arr i (1 : Nat) (intG l)])) (Tree.side ((bif bif bif decide (k = (11 : Int)) then true else decide (k = (12 : Int)) then b else false then decide ((↑i : Int) = (2 : Int)) else false) = true → (0 : Int) ≤ (0 : Int) ∧ (0 : Int) < (↑i : Int)) (Tree.side ((bif bif bif bif decide (k = (11 : Int)) then true else decide (k = (12 : Int)) then b else false then decide ((↑i : Int) = (2 : Int)) else false then decide (List.getD l (0 : Nat) (0 : Int) = (1 : Int)) else false) = true → (0 : Int) ≤ (1 : Int) ∧ (1 : Int) < (↑i : Int)) (Tree.ite (bif bif bif bif bif decide (k = (11 : Int)) then true else decide (k = (12 : Int)) then b else false then decide ((↑i : Int) = (2 : Int)) else false then decide (List.getD l (0 : Nat) (0 : Int) = (1 : Int)) else false then decide (List.getD l (1 : Nat) (0 : Int) = (1 : Int)) else false) (Tree.leaf (Leaf2.ret [AV.int IntKind.i64 (2 : Int)] [Blk.box [AV.int IntKind.u8 k, AV.str r, AV.str m, AV.int IntKind.i64 d, AV.sl (List.length s) (5 : Nat) (Ex.exG s)], Blk.arr i (1 : Nat) (intG l)])) (Tree.side ((bif bif bif decide (k = (13 : Int)) then true else decide (k = (14 : Int)) then b else false then decide ((↑i : Int) = (2 : Int)) else false) = true → (0 : Int) ≤ (0 : Int) ∧ (0 : Int) < (↑i : Int)) (Tree.side ((bif bif bif bif decide (k = (13 : Int)) then true else decide (k = (14 : Int)) then b else false then decide ((↑i : Int) = (2 : Int)) else false then decide (List.getD l (0 : Nat) (0 : Int) = (2 : Int)) else false) = true → (0 : Int) ≤ (1 : Int) ∧ (1 : Int) < (↑i : Int)) (Tree.ite (bif bif bif bif bif decide (k = (13 : Int)) then true else decide (k = (14 : Int)) then b else false then decide ((↑i : Int) = (2 : Int)) else false then decide (List.getD l (0 : Nat) (0 : Int) = (2 : Int)) else false then decide (List.getD l (1 : Nat) (0 : Int) = (2 : Int)) else false) (Tree.leaf (Leaf2.ret [AV.int IntKind.i64 (2 : Int)] [Blk.box [AV.int IntKind.u8 k, AV.str r, AV.str m, AV.int IntKind.i64 d, AV.sl (List.length s) (5 : Nat) (Ex.exG s)], Blk.arr i (1 : Nat) (intG l)])) (Tree.side ((bif bif decide (k = (15 : Int)) then b else false then decide ((↑i : Int) = (1 : Int)) else false) = true → (0 : Int) ≤ (0 : Int) ∧ (0 : Int) < (↑i : Int)) (Tree.ite (bif bif bif decide (k = (15 : Int)) then b else false then decide ((↑i : Int) = (1 : Int)) else false then decide (List.getD l (0 : Nat) (0 : Int) = (2 : Int)) else false) (Tree.leaf (Leaf2.ret [AV.int IntKind.i64 (2 : Int)] [Blk.box [AV.int IntKind.u8 k, AV.str r, AV.str m, AV.int IntKind.i64 d, AV.sl (List.length s) (5 : Nat) (Ex.exG s)], Blk.arr i (1 : Nat) (intG l)])) (Tree.leaf (Leaf2.ret [AV.int IntKind.i64 (0 : Int)] [Blk.box [AV.int IntKind.u8 k, AV.str r, AV.str m, AV.int IntKind.i64 d, AV.sl (List.length s) (5 : Nat) (Ex.exG s)], Blk.arr i (1 : Nat) (intG l)]))))))))))))))))))))) (by kernel_rfl) ?_
    simp only [Tree.holds, Leafs2, inR, lo, hi, Int.toNat_natCast]
    refine ⟨fun hlt => ?_, fun hge => ?_⟩
    · have hlt : i < s.length := by have := of_decide_eq_true hlt; omega
      have hg := Ex.sizes_get hlt
      have hg2 := Ex.bytesL_get hlt
      have ht := Ex.sorts_take s i hlt
      refine ⟨by omega, fun _ => ⟨s.getD i Ex.nil, ⟨eqL_exA rfl rfl rfl rfl rfl (Ex.deep_eq _), by omega, by omega, by omega⟩, ⟨_, rfl⟩, ?_⟩⟩
      intro e he
      refine ⟨⟨trivial, Nat.le_refl _, by omega⟩, fun _ => ⟨by omega, fun _ => ?_⟩⟩
      rw [if_pos trivial]
      refine ⟨⟨i + 1, hlt⟩, by show s.length - (i + 1) < s.length - i; omega, by simp [SRs], ?_, by kernel_rfl, Nat.zero_le _⟩
      have hp := intG_push (v := e) hll
      rw [ht, hl, ← he]
      exact ⟨⟨⟨rfl, rfl⟩, rfl, rfl, ⟨rfl, rfl⟩, ⟨rfl, rfl, eqG_refl _ _ _⟩, trivial⟩, ⟨rfl, rfl, hp⟩, trivial⟩
    · have hge : i = s.length := by have := of_decide_eq_false hge; omega
      subst hge
      rw [List.take_length] at hl
      clear hge hil hxn ih
      have fin : ∀ z : Int, z = sortN k r m d l → RetR (rsortC (n + 1)) 0 Q [.int .i64 z] (HRs k r m d s l s.length) := by
        intro z hz
        rw [hl, ← hz] at hq
        exact RetR.scal hq rfl (by simp [resV])
      have hls : ((s.length : Nat) : Int) = l.length := by rw [hll]
      have hn0 : s.length = 0 ↔ s = [] := List.length_eq_zero_iff
      have q1 : ∀ a : Int, l = [a] ↔ ((s.length : Nat) : Int) = 1 ∧ l[0]?.getD 0 = a := fun a => by rw [hls]; exact list1
      have q2 : ∀ a c : Int, l = [a, c] ↔ ((s.length : Nat) : Int) = 2 ∧ l[0]?.getD 0 = a ∧ l[1]?.getD 0 = c := fun a c => by rw [hls]; exact list2
      have q3 : ∀ a c e : Int, l = [a, c, e] ↔ ((s.length : Nat) : Int) = 3 ∧ l[0]?.getD 0 = a ∧ l[1]?.getD 0 = c ∧ l[2]?.getD 0 = e := fun a c e => by rw [hls]; exact list3
      by_cases k1 : k = 1
      · subst k1
        have hs := sortN_leaf (k := 1) (r := r) (m := m) (d := d) (l := l) (by decide)
        rw [hll] at hs
        simp
        refine ⟨r, fun _ _ _ => ⟨rfl, by omega⟩, ⟨_, fun _ _ _ => rfl⟩, ?_⟩
        intro e he
        refine ⟨fun g1 g2 g3 g4 => fin 1 ?_, fun h => fin 0 ?_⟩
        · rw [hs, if_pos]
          have := he g1 g2 g3
          simp [leafB, g1, g2, g3, ← this, g4]
        · rw [hs, if_neg]
          intro hL
          simp [leafB] at hL
          obtain ⟨g1, ⟨g4, g2⟩, g3⟩ := hL
          exact h g1 g2 g3 ((he g1 g2 g3).trans g4)
      by_cases k2 : k = 2
      · subst k2
        have hs := sortN_leaf (k := 2) (r := r) (m := m) (d := d) (l := l) (by decide)
        rw [hll] at hs
        simp
        refine ⟨m, fun _ _ => ⟨rfl, by omega⟩, ?_, fun hn => fin 0 ?_, fun hn => ⟨d, fun _ _ => rfl, ?_, fun hd => fin 0 ?_, fun hd => ⟨fun g1 g2 => fin 1 ?_, fun h => fin 0 ?_⟩⟩⟩
        · cases nameB m
          · exact .inl fun _ _ => rfl
          · exact .inr fun _ _ => rfl
        · rw [hs, if_neg]
          intro hL
          simp [leafB] at hL
          rw [hn hL.1 hL.2.1.1] at hL
          exact absurd hL.2.1.2 (by decide)
        · cases dayB d
          · exact .inl fun _ _ => rfl
          · exact .inr fun _ _ => rfl
        · rw [hs, if_neg]
          intro hL
          simp [leafB] at hL
          rw [hd hL.1 hL.2.1.1] at hL
          exact absurd hL.2.2 (by decide)
        · rw [hs, if_pos]
          simp [leafB, g1, g2, hn g1 g2, hd g1 g2]
        · rw [hs, if_neg]
          intro hL
          simp [leafB] at hL
          exact h hL.1 hL.2.1.1
      by_cases k3 : k = 3
      · subst k3
        have hs := sortN_leaf (k := 3) (r := r) (m := m) (d := d) (l := l) (by decide)
        rw [hll] at hs
        simp
        refine ⟨m, fun _ _ => ⟨rfl, by omega⟩, ?_, fun hn => fin 0 ?_, fun hn => ⟨fun g1 g2 g3 => fin 1 ?_, fun h => fin 0 ?_⟩⟩
        · cases nameB m
          · exact .inl fun _ _ => rfl
          · exact .inr fun _ _ => rfl
        · rw [hs, if_neg]
          intro hL
          simp [leafB] at hL
          rw [hn hL.1 hL.2.1.1] at hL
          exact absurd hL.2.1.2 (by decide)
        · rw [hs, if_pos]
          simp [leafB, g1, g2, g3, hn g1 g2]
        · rw [hs, if_neg]
          intro hL
          simp [leafB] at hL
          exact h hL.1 hL.2.1.1 hL.2.2
      by_cases k4 : 4 ≤ k ∧ k ≤ 8
      · have hs : sortN k r m d l = if bareB r m d = true ∧ l = [1, 1] then 1 else 0 := sortN_shp (by
          have : k = 4 ∨ k = 5 ∨ k = 6 ∨ k = 7 ∨ k = 8 := by omega
          rcases this with rfl | rfl | rfl | rfl | rfl <;> rfl)
        simp [k1, k2, k3, k4, show ¬ k = 9 by omega, show ¬ k = 11 by omega, show ¬ k = 12 by omega, show ¬ k = 13 by omega, show ¬ k = 14 by omega, show ¬ k = 15 by omega]
        refine ⟨fun _ h => by omega, fun _ => ⟨fun _ h _ => by omega, fun _ => ⟨fun h1 h2 h3 h4 => fin 1 ?_, fun h => fin 0 ?_⟩⟩⟩
        · rw [hs, if_pos ⟨hb.trans h1, (q2 _ _).2 ⟨h2, h3, h4⟩⟩]
        · rw [hs, if_neg fun g => h (hb.symm.trans g.1) ((q2 _ _).1 g.2).1 ((q2 _ _).1 g.2).2.1 ((q2 _ _).1 g.2).2.2]
      by_cases k9 : k = 9
      · subst k9
        have hs : sortN 9 r m d l = if bareB r m d = true ∧ l = [2, 1, 1] then 1 else 0 := sortN_shp rfl
        simp
        refine ⟨fun _ h => by omega, fun _ => ⟨fun _ h _ => by omega, fun _ => ⟨fun _ h _ _ => by omega, fun _ => ⟨fun h1 h2 h3 h4 h5 => fin 1 ?_, fun h => fin 0 ?_⟩⟩⟩⟩
        · rw [hs, if_pos ⟨hb.trans h1, (q3 _ _ _).2 ⟨h2, h3, h4, h5⟩⟩]
        · rw [hs, if_neg fun g => h (hb.symm.trans g.1) ((q3 _ _ _).1 g.2).1 ((q3 _ _ _).1 g.2).2.1 ((q3 _ _ _).1 g.2).2.2.1 ((q3 _ _ _).1 g.2).2.2.2]
      by_cases k11 : k = 11 ∨ k = 12
      · have hs : sortN k r m d l = if bareB r m d = true ∧ l = [1, 1] then 2 else 0 := sortN_shp (by rcases k11 with rfl | rfl <;> rfl)
        simp [k1, k2, k3, k4, k9, k11, show ¬ k ≤ 8 by omega, show ¬ k = 13 by omega, show ¬ k = 14 by omega, show ¬ k = 15 by omega]
        refine ⟨fun _ h => by omega, fun _ => ⟨fun _ h _ => by omega, fun _ => ⟨fun h1 h2 h3 h4 => fin 2 ?_, fun h => fin 0 ?_⟩⟩⟩
        · rw [hs, if_pos ⟨hb.trans h1, (q2 _ _).2 ⟨h2, h3, h4⟩⟩]
        · rw [hs, if_neg fun g => h (hb.symm.trans g.1) ((q2 _ _).1 g.2).1 ((q2 _ _).1 g.2).2.1 ((q2 _ _).1 g.2).2.2]
      by_cases k13 : k = 13 ∨ k = 14
      · have hs : sortN k r m d l = if bareB r m d = true ∧ l = [2, 2] then 2 else 0 := sortN_shp (by rcases k13 with rfl | rfl <;> rfl)
        simp [k1, k2, k3, k4, k9, k11, k13, show ¬ k ≤ 8 by omega, show ¬ k = 15 by omega]
        refine ⟨fun _ h => by omega, fun _ => ⟨fun _ h _ => by omega, fun _ => ⟨fun h1 h2 h3 h4 => fin 2 ?_, fun h => fin 0 ?_⟩⟩⟩
        · rw [hs, if_pos ⟨hb.trans h1, (q2 _ _).2 ⟨h2, h3, h4⟩⟩]
        · rw [hs, if_neg fun g => h (hb.symm.trans g.1) ((q2 _ _).1 g.2).1 ((q2 _ _).1 g.2).2.1 ((q2 _ _).1 g.2).2.2]
      by_cases k15 : k = 15
      · subst k15
        have hs : sortN 15 r m d l = if bareB r m d = true ∧ l = [2] then 2 else 0 := sortN_shp rfl
        simp
        refine ⟨fun _ h => by omega, fun _ => ⟨fun h1 h2 h3 => fin 2 ?_, fun h => fin 0 ?_⟩⟩
        · rw [hs, if_pos ⟨hb.trans h1, (q1 _).2 ⟨h2, h3⟩⟩]
        · rw [hs, if_neg fun g => h (hb.symm.trans g.1) ((q1 _).1 g.2).1 ((q1 _).1 g.2).2]
      · have hs := sortN_leaf (k := k) (r := r) (m := m) (d := d) (l := l) (shp_no (by omega) (by omega))
        have hlf : leafB k r m d l.length = false := by simp [leafB, k1, k2, k3]
        rw [hlf] at hs
        simp [k1, k2, k3, k4, k9, k11, k13, k15]
        exact fin 0 (by rw [hs]; rfl)
def rsortAll : Ctr := ctrP true (fun x : Ex => [x.exA]) (fun x => x.size < 2 ^ 40 ∧ x.bytesE < 2 ^ 40) (fun x r => r = x.sortE) (fun _ (r : Int) => (.int .i64 r, []))
theorem rsort_ok : CtrOK Tryd.prog 25 rsortAll := ctrP_rec Ex.size rsort_step
end Go.Proofs.Tryd
end

/- Expressions: the checks. -/
section
set_option linter.unusedVariables false
set_option linter.unusedSimpArgs false
set_option maxRecDepth 100000
open Go Go.Sx Go.Proofs Go.Nov
namespace Go.Proofs.Tryd
attribute [local simp] eqKV eqA eqA0 eqH eqB eqL eqL0
noncomputable def K8 : List Go.Sx.Item := [.code (Tryd.f8.body.getD .skip)]
noncomputable def K9 : List Go.Sx.Item := [.code (Tryd.f9.body.getD .skip)]
noncomputable def K10 : List Go.Sx.Item := [.code (Tryd.f10.body.getD .skip)]
noncomputable def K12 : List Go.Sx.Item := [.code (Tryd.f12.body.getD .skip)]
noncomputable def K11 : List Go.Sx.Item := [.code (Tryd.f11.body.getD .skip)]
noncomputable def K13 : List Go.Sx.Item := [.code (Tryd.f13.body.getD .skip)]
def sizeAllC : Ctr := ctrP true (fun x : Ex => [x.exA]) (fun x => x.size < 2 ^ 62) (fun x r => r = x.size) (fun _ (r : Nat) => (.int .i64 (r : Int), []))
def depthAll : Ctr := ctrP true (fun p : Ex × Nat => [p.1.exA, .int .i64 (p.2 : Int)]) (fun p => p.1.size < 2 ^ 62 ∧ p.2 < 2 ^ 40) (fun p r => r = min p.1.depth (p.2 + 1)) (fun _ (r : Nat) => (.int .i64 (r : Int), []))
def rdepthAll : Ctr := ctrP true (fun x : Ex => [x.exA]) (fun x => x.size < 2 ^ 62) (fun x r => r = x.depth) (fun _ (r : Nat) => (.int .i64 (r : Int), []))
def checkXC : Ctr := ctrP true (fun x : Ex => [x.exA]) (fun x => x.size < 2 ^ 40 ∧ x.bytesE < 2 ^ 40) (fun x r => r = x.errX) (fun _ (r : Int) => (.int .i64 r, []))
def numXC (z : Int) : Ctr := ctrP true (fun x : Ex => [x.exA]) (fun x => x.size < 2 ^ 40 ∧ x.bytesE < 2 ^ 40) (fun x r => r = (decide (x.errX = 0) && decide (x.sortE = z))) (fun _ (r : Bool) => (.bool r, []))
theorem eqX (x : Ex) : eqL [.agg [.int .u8 x.kind, .str x.rat, .str x.name, .int .i64 x.date, .sl x.sub.length 5 (Ex.exG x.sub)]] [x.exA] := eqL_exA rfl rfl rfl rfl rfl (eqG_refl _ _ _)
theorem errX_many {x : Ex} {n : Nat} (hn : decide (500 < (x.size : Int)) = false → (60 < n ↔ 60 < x.depth)) :
    ((bif decide (500 < (x.size : Int)) then true else decide (60 < (n : Int))) = true → x.errX = 4) ∧ ((bif decide (500 < (x.size : Int)) then true else decide (60 < (n : Int))) = false → x.errX = if x.sortE = 0 then 8 else 0) := by
  by_cases h : 500 < x.size
  · have e : decide (500 < (x.size : Int)) = true := decide_eq_true (by omega)
    rw [e]
    exact ⟨fun _ => if_pos (.inl h), fun h => by cases h⟩
  · have e : decide (500 < (x.size : Int)) = false := decide_eq_false (by omega)
    have h2 := hn e
    rw [e]
    simp only [cond_false]
    by_cases h3 : 60 < n
    · exact ⟨fun _ => if_pos (.inr (h2.1 h3)), fun h => by have := of_decide_eq_false h; omega⟩
    · refine ⟨fun h => by have := of_decide_eq_true h; omega, fun _ => ?_⟩
      unfold Ex.errX
      rw [if_neg]
      rintro (h4 | h4)
      · exact h h4
      · exact h3 (h2.2 h4)
def GCk : Nat → Option Ctr := fun f => if f = 14 then some (sizeAllC) else if f = 22 then some (depthAll) else if f = 23 then some (sortAll) else none
theorem GCk_ok : ∀ g c, GCk g = some c → CtrOK Tryd.prog g c := by
  intro g c h
  unfold GCk at h
  by_cases hg : g = 14
  · subst hg
    rw [if_pos rfl] at h
    cases h
    exact size_ok
  rw [if_neg hg] at h
  clear hg
  by_cases hg : g = 22
  · subst hg
    rw [if_pos rfl] at h
    cases h
    exact depth_ok
  rw [if_neg hg] at h
  clear hg
  by_cases hg : g = 23
  · subst hg
    rw [if_pos rfl] at h
    cases h
    exact sort_ok
  rw [if_neg hg] at h
  clear hg
  cases h

theorem checkX_ok : CtrOK Tryd.prog 8 checkXC := by
  refine fn_ctrP (fn := Tryd.f8) (c := Tryd.f8.body.getD .skip) rfl rfl rfl fun x hx O w0 Q hq => ?_
  replace hq := hq _ rfl
  obtain ⟨h1, h2⟩ := hx
  refine SafeK.run (k := K8) hmix GCk_ok [] 400 (T := Tree.ex (fun (x_1 : Ex) => eqL [AV.agg [AV.int IntKind.u8 (Ex.kind x), AV.str (Ex.rat x), AV.str (Ex.name x), AV.int IntKind.i64 (Ex.date x), AV.sl (List.length (Ex.sub x)) (5 : Nat) (Ex.exG (Ex.sub x))]] [AV.agg [AV.int IntKind.u8 (Ex.kind x_1), AV.str (Ex.rat x_1), AV.str (Ex.name x_1), AV.int IntKind.i64 (Ex.date x_1), AV.sl (List.length (Ex.sub x_1)) (5 : Nat) (Ex.exG (Ex.sub x_1))]] ∧ Ex.size x_1 < (4611686018427387904 : Nat)) fun (n : Ex) => Tree.all (fun (r : Nat) => r = Ex.size n) fun (n : Nat) => Tree.ex (fun (x_1 : Ex × Nat) => decide ((500 : Int) < (↑n : Int)) = false → eqL [AV.agg [AV.int IntKind.u8 (Ex.kind x), AV.str (Ex.rat x), AV.str (Ex.name x), AV.int IntKind.i64 (Ex.date x), AV.sl (List.length (Ex.sub x)) (5 : Nat) (Ex.exG (Ex.sub x))], AV.int IntKind.i64 (60 : Int)] [AV.agg [AV.int IntKind.u8 (Ex.kind (Prod.fst x_1)), AV.str (Ex.rat (Prod.fst x_1)), AV.str (Ex.name (Prod.fst x_1)), AV.int IntKind.i64 (Ex.date (Prod.fst x_1)), AV.sl (List.length (Ex.sub (Prod.fst x_1))) (5 : Nat) (Ex.exG (Ex.sub (Prod.fst x_1)))], AV.int IntKind.i64 (↑(Prod.snd x_1) : Int)] ∧ Ex.size (Prod.fst x_1) < (4611686018427387904 : Nat) ∧ Prod.snd x_1 < (1099511627776 : Nat)) fun (n_1 : Ex × Nat) => Tree.all (fun (x : Nat) => decide ((500 : Int) < (↑n : Int)) = false → x = min (Ex.depth (Prod.fst n_1)) (Prod.snd n_1 + (1 : Nat))) fun (n_2 : Nat) => Tree.ite (bif decide ((500 : Int) < (↑n : Int)) then true else decide ((60 : Int) < (↑n_2 : Int))) (Tree.leaf (Leaf2.ret [AV.int IntKind.i64 (4 : Int)] [Blk.box [AV.int IntKind.u8 (Ex.kind x), AV.str (Ex.rat x), AV.str (Ex.name x), AV.int IntKind.i64 (Ex.date x), AV.sl (List.length (Ex.sub x)) (5 : Nat) (Ex.exG (Ex.sub x))]])) (Tree.ex (fun (x_1 : Ex) => eqL [AV.agg [AV.int IntKind.u8 (Ex.kind x), AV.str (Ex.rat x), AV.str (Ex.name x), AV.int IntKind.i64 (Ex.date x), AV.sl (List.length (Ex.sub x)) (5 : Nat) (Ex.exG (Ex.sub x))]] [AV.agg [AV.int IntKind.u8 (Ex.kind x_1), AV.str (Ex.rat x_1), AV.str (Ex.name x_1), AV.int IntKind.i64 (Ex.date x_1), AV.sl (List.length (Ex.sub x_1)) (5 : Nat) (Ex.exG (Ex.sub x_1))]] ∧ Ex.size x_1 < (1152921504606846976 : Nat) ∧ Ex.bytesE x_1 < (1099511627776 : Nat)) fun (n : Ex) => Tree.all (fun (r : Int) => r = Ex.sortE n) fun (n : Int) => Tree.ite (decide (n = (0 : Int))) (Tree.leaf (Leaf2.ret [AV.int IntKind.i64 (8 : Int)] [Blk.box [AV.int IntKind.u8 (Ex.kind x), AV.str (Ex.rat x), AV.str (Ex.name x), AV.int IntKind.i64 (Ex.date x), AV.sl (List.length (Ex.sub x)) (5 : Nat) (Ex.exG (Ex.sub x))]])) (Tree.leaf (Leaf2.ret [AV.int IntKind.i64 (0 : Int)] [Blk.box [AV.int IntKind.u8 (Ex.kind x), AV.str (Ex.rat x), AV.str (Ex.name x), AV.int IntKind.i64 (Ex.date x), AV.sl (List.length (Ex.sub x)) (5 : Nat) (Ex.exG (Ex.sub x))]])))) (by kernel_rfl) ?_
  simp only [Tree.holds, Leafs2, inR, lo, hi, Int.toNat_natCast]
  refine ⟨x, ⟨eqL_exA rfl rfl rfl rfl rfl (eqG_refl _ _ _), by omega⟩, ⟨_, rfl⟩, ?_⟩
  rintro _ rfl
  refine ⟨(x, 60), fun _ => ⟨⟨⟨⟨rfl, rfl⟩, rfl, rfl, ⟨rfl, rfl⟩, ⟨rfl, rfl, eqG_refl _ _ _⟩, trivial⟩, ⟨rfl, rfl⟩, trivial⟩, by show x.size < _; omega, by show 60 < 1099511627776; omega⟩, ⟨_, fun _ => rfl⟩, ?_⟩
  intro c hc
  have em := errX_many (x := x) (n := c) fun h => by have := hc h; simp only at this; omega
  refine ⟨fun h => ?_, fun h => ⟨x, ⟨eqX x, by omega, by omega⟩, ⟨_, rfl⟩, ?_⟩⟩
  · rw [em.1 h] at hq
    exact RetR.scal hq rfl (by simp [resV])
  · have e := em.2 h
    rintro _ rfl
    refine ⟨fun g => ?_, fun g => ?_⟩
    · rw [e, if_pos (of_decide_eq_true g)] at hq
      exact RetR.scal hq rfl (by simp [resV])
    · rw [e, if_neg (of_decide_eq_false g)] at hq
      exact RetR.scal hq rfl (by simp [resV])
def GCr : Nat → Option Ctr := fun f => if f = 15 then some (sizeAllC) else if f = 24 then some (rdepthAll) else if f = 25 then some (rsortAll) else none
theorem GCr_ok : ∀ g c, GCr g = some c → CtrOK Tryd.prog g c := by
  intro g c h
  unfold GCr at h
  by_cases hg : g = 15
  · subst hg
    rw [if_pos rfl] at h
    cases h
    exact rsize_ok
  rw [if_neg hg] at h
  clear hg
  by_cases hg : g = 24
  · subst hg
    rw [if_pos rfl] at h
    cases h
    exact rdepth_ok
  rw [if_neg hg] at h
  clear hg
  by_cases hg : g = 25
  · subst hg
    rw [if_pos rfl] at h
    cases h
    exact rsort_ok
  rw [if_neg hg] at h
  clear hg
  cases h

theorem rcheckX_ok : CtrOK Tryd.prog 9 checkXC := by
  refine fn_ctrP (fn := Tryd.f9) (c := Tryd.f9.body.getD .skip) rfl rfl rfl fun x hx O w0 Q hq => ?_
  replace hq := hq _ rfl
  obtain ⟨h1, h2⟩ := hx
  refine SafeK.run (k := K9) hmix GCr_ok [] 400 (T := Tree.ex (fun (x_1 : Ex) => eqL [AV.agg [AV.int IntKind.u8 (Ex.kind x), AV.str (Ex.rat x), AV.str (Ex.name x), AV.int IntKind.i64 (Ex.date x), AV.sl (List.length (Ex.sub x)) (5 : Nat) (Ex.exG (Ex.sub x))]] [AV.agg [AV.int IntKind.u8 (Ex.kind x_1), AV.str (Ex.rat x_1), AV.str (Ex.name x_1), AV.int IntKind.i64 (Ex.date x_1), AV.sl (List.length (Ex.sub x_1)) (5 : Nat) (Ex.exG (Ex.sub x_1))]] ∧ Ex.size x_1 < (4611686018427387904 : Nat)) fun (n : Ex) => Tree.all (fun (r : Nat) => r = Ex.size n) fun (n : Nat) => Tree.ex (fun (x_1 : Ex) => decide ((500 : Int) < (↑n : Int)) = false → eqL [AV.agg [AV.int IntKind.u8 (Ex.kind x), AV.str (Ex.rat x), AV.str (Ex.name x), AV.int IntKind.i64 (Ex.date x), AV.sl (List.length (Ex.sub x)) (5 : Nat) (Ex.exG (Ex.sub x))]] [AV.agg [AV.int IntKind.u8 (Ex.kind x_1), AV.str (Ex.rat x_1), AV.str (Ex.name x_1), AV.int IntKind.i64 (Ex.date x_1), AV.sl (List.length (Ex.sub x_1)) (5 : Nat) (Ex.exG (Ex.sub x_1))]] ∧ Ex.size x_1 < (4611686018427387904 : Nat)) fun (n_1 : Ex) => Tree.all (fun (x : Nat) => decide ((500 : Int) < (↑n : Int)) = false → x = Ex.depth n_1) fun (n_2 : Nat) => Tree.ite (bif decide ((500 : Int) < (↑n : Int)) then true else decide ((60 : Int) < (↑n_2 : Int))) (Tree.leaf (Leaf2.ret [AV.int IntKind.i64 (4 : Int)] [Blk.box [AV.int IntKind.u8 (Ex.kind x), AV.str (Ex.rat x), AV.str (Ex.name x), AV.int IntKind.i64 (Ex.date x), AV.sl (List.length (Ex.sub x)) (5 : Nat) (Ex.exG (Ex.sub x))]])) (Tree.ex (fun (x_1 : Ex) => eqL [AV.agg [AV.int IntKind.u8 (Ex.kind x), AV.str (Ex.rat x), AV.str (Ex.name x), AV.int IntKind.i64 (Ex.date x), AV.sl (List.length (Ex.sub x)) (5 : Nat) (Ex.exG (Ex.sub x))]] [AV.agg [AV.int IntKind.u8 (Ex.kind x_1), AV.str (Ex.rat x_1), AV.str (Ex.name x_1), AV.int IntKind.i64 (Ex.date x_1), AV.sl (List.length (Ex.sub x_1)) (5 : Nat) (Ex.exG (Ex.sub x_1))]] ∧ Ex.size x_1 < (1099511627776 : Nat) ∧ Ex.bytesE x_1 < (1099511627776 : Nat)) fun (n : Ex) => Tree.all (fun (r : Int) => r = Ex.sortE n) fun (n : Int) => Tree.ite (decide (n = (0 : Int))) (Tree.leaf (Leaf2.ret [AV.int IntKind.i64 (8 : Int)] [Blk.box [AV.int IntKind.u8 (Ex.kind x), AV.str (Ex.rat x), AV.str (Ex.name x), AV.int IntKind.i64 (Ex.date x), AV.sl (List.length (Ex.sub x)) (5 : Nat) (Ex.exG (Ex.sub x))]])) (Tree.leaf (Leaf2.ret [AV.int IntKind.i64 (0 : Int)] [Blk.box [AV.int IntKind.u8 (Ex.kind x), AV.str (Ex.rat x), AV.str (Ex.name x), AV.int IntKind.i64 (Ex.date x), AV.sl (List.length (Ex.sub x)) (5 : Nat) (Ex.exG (Ex.sub x))]])))) (by kernel_rfl) ?_
  simp only [Tree.holds, Leafs2, inR, lo, hi, Int.toNat_natCast]
  refine ⟨x, ⟨eqL_exA rfl rfl rfl rfl rfl (eqG_refl _ _ _), by omega⟩, ⟨_, rfl⟩, ?_⟩
  rintro _ rfl
  refine ⟨x, fun _ => ⟨eqX x, by omega⟩, ⟨_, fun _ => rfl⟩, ?_⟩
  intro c hc
  have em := errX_many (x := x) (n := c) fun h => by have := hc h; omega
  refine ⟨fun h => ?_, fun h => ⟨x, ⟨eqX x, by omega, by omega⟩, ⟨_, rfl⟩, ?_⟩⟩
  · rw [em.1 h] at hq
    exact RetR.scal hq rfl (by simp [resV])
  · have e := em.2 h
    rintro _ rfl
    refine ⟨fun g => ?_, fun g => ?_⟩
    · rw [e, if_pos (of_decide_eq_true g)] at hq
      exact RetR.scal hq rfl (by simp [resV])
    · rw [e, if_neg (of_decide_eq_false g)] at hq
      exact RetR.scal hq rfl (by simp [resV])
def GNu : Nat → Option Ctr := fun f => if f = 8 then some (checkXC) else if f = 23 then some (sortAll) else none
theorem GNu_ok : ∀ g c, GNu g = some c → CtrOK Tryd.prog g c := by
  intro g c h
  unfold GNu at h
  by_cases hg : g = 8
  · subst hg
    rw [if_pos rfl] at h
    cases h
    exact checkX_ok
  rw [if_neg hg] at h
  clear hg
  by_cases hg : g = 23
  · subst hg
    rw [if_pos rfl] at h
    cases h
    exact sort_ok
  rw [if_neg hg] at h
  clear hg
  cases h

theorem num_ok : CtrOK Tryd.prog 10 (numXC 1) := by
  refine fn_ctrP (fn := Tryd.f10) (c := Tryd.f10.body.getD .skip) rfl rfl rfl fun x hx O w0 Q hq => ?_
  replace hq := hq _ rfl
  obtain ⟨h1, h2⟩ := hx
  refine SafeK.run (k := K10) hmix GNu_ok [] 400 (T := Tree.ex (fun (x_1 : Ex) => eqL [AV.agg [AV.int IntKind.u8 (Ex.kind x), AV.str (Ex.rat x), AV.str (Ex.name x), AV.int IntKind.i64 (Ex.date x), AV.sl (List.length (Ex.sub x)) (5 : Nat) (Ex.exG (Ex.sub x))]] [AV.agg [AV.int IntKind.u8 (Ex.kind x_1), AV.str (Ex.rat x_1), AV.str (Ex.name x_1), AV.int IntKind.i64 (Ex.date x_1), AV.sl (List.length (Ex.sub x_1)) (5 : Nat) (Ex.exG (Ex.sub x_1))]] ∧ Ex.size x_1 < (1099511627776 : Nat) ∧ Ex.bytesE x_1 < (1099511627776 : Nat)) fun (n : Ex) => Tree.all (fun (r : Int) => r = Ex.errX n) fun (n : Int) => Tree.ex (fun (x_1 : Ex) => decide (n = (0 : Int)) = true → eqL [AV.agg [AV.int IntKind.u8 (Ex.kind x), AV.str (Ex.rat x), AV.str (Ex.name x), AV.int IntKind.i64 (Ex.date x), AV.sl (List.length (Ex.sub x)) (5 : Nat) (Ex.exG (Ex.sub x))]] [AV.agg [AV.int IntKind.u8 (Ex.kind x_1), AV.str (Ex.rat x_1), AV.str (Ex.name x_1), AV.int IntKind.i64 (Ex.date x_1), AV.sl (List.length (Ex.sub x_1)) (5 : Nat) (Ex.exG (Ex.sub x_1))]] ∧ Ex.size x_1 < (1152921504606846976 : Nat) ∧ Ex.bytesE x_1 < (1099511627776 : Nat)) fun (n_1 : Ex) => Tree.all (fun (x : Int) => decide (n = (0 : Int)) = true → x = Ex.sortE n_1) fun (n_2 : Int) => Tree.leaf (Leaf2.ret [AV.bool (bif decide (n = (0 : Int)) then decide (n_2 = (1 : Int)) else false)] [Blk.box [AV.int IntKind.u8 (Ex.kind x), AV.str (Ex.rat x), AV.str (Ex.name x), AV.int IntKind.i64 (Ex.date x), AV.sl (List.length (Ex.sub x)) (5 : Nat) (Ex.exG (Ex.sub x))]])) (by kernel_rfl) ?_
  simp only [Tree.holds, Leafs2, inR, lo, hi, Int.toNat_natCast]
  refine ⟨x, ⟨eqX x, by omega, by omega⟩, ⟨_, rfl⟩, ?_⟩
  rintro _ rfl
  refine ⟨x, fun _ => ⟨eqX x, by omega, by omega⟩, ⟨_, fun _ => rfl⟩, ?_⟩
  intro c hc
  refine RetR.scal hq rfl ?_
  cases h : decide (x.errX = 0) with
  | false => rfl
  | true => rw [hc h]; rfl
theorem truth_ok : CtrOK Tryd.prog 12 (numXC 2) := by
  refine fn_ctrP (fn := Tryd.f12) (c := Tryd.f12.body.getD .skip) rfl rfl rfl fun x hx O w0 Q hq => ?_
  replace hq := hq _ rfl
  obtain ⟨h1, h2⟩ := hx
  refine SafeK.run (k := K12) hmix GNu_ok [] 400 (T := Tree.ex (fun (x_1 : Ex) => eqL [AV.agg [AV.int IntKind.u8 (Ex.kind x), AV.str (Ex.rat x), AV.str (Ex.name x), AV.int IntKind.i64 (Ex.date x), AV.sl (List.length (Ex.sub x)) (5 : Nat) (Ex.exG (Ex.sub x))]] [AV.agg [AV.int IntKind.u8 (Ex.kind x_1), AV.str (Ex.rat x_1), AV.str (Ex.name x_1), AV.int IntKind.i64 (Ex.date x_1), AV.sl (List.length (Ex.sub x_1)) (5 : Nat) (Ex.exG (Ex.sub x_1))]] ∧ Ex.size x_1 < (1099511627776 : Nat) ∧ Ex.bytesE x_1 < (1099511627776 : Nat)) fun (n : Ex) => Tree.all (fun (r : Int) => r = Ex.errX n) fun (n : Int) => Tree.ex (fun (x_1 : Ex) => decide (n = (0 : Int)) = true → eqL [AV.agg [AV.int IntKind.u8 (Ex.kind x), AV.str (Ex.rat x), AV.str (Ex.name x), AV.int IntKind.i64 (Ex.date x), AV.sl (List.length (Ex.sub x)) (5 : Nat) (Ex.exG (Ex.sub x))]] [AV.agg [AV.int IntKind.u8 (Ex.kind x_1), AV.str (Ex.rat x_1), AV.str (Ex.name x_1), AV.int IntKind.i64 (Ex.date x_1), AV.sl (List.length (Ex.sub x_1)) (5 : Nat) (Ex.exG (Ex.sub x_1))]] ∧ Ex.size x_1 < (1152921504606846976 : Nat) ∧ Ex.bytesE x_1 < (1099511627776 : Nat)) fun (n_1 : Ex) => Tree.all (fun (x : Int) => decide (n = (0 : Int)) = true → x = Ex.sortE n_1) fun (n_2 : Int) => Tree.leaf (Leaf2.ret [AV.bool (bif decide (n = (0 : Int)) then decide (n_2 = (2 : Int)) else false)] [Blk.box [AV.int IntKind.u8 (Ex.kind x), AV.str (Ex.rat x), AV.str (Ex.name x), AV.int IntKind.i64 (Ex.date x), AV.sl (List.length (Ex.sub x)) (5 : Nat) (Ex.exG (Ex.sub x))]])) (by kernel_rfl) ?_
  simp only [Tree.holds, Leafs2, inR, lo, hi, Int.toNat_natCast]
  refine ⟨x, ⟨eqX x, by omega, by omega⟩, ⟨_, rfl⟩, ?_⟩
  rintro _ rfl
  refine ⟨x, fun _ => ⟨eqX x, by omega, by omega⟩, ⟨_, fun _ => rfl⟩, ?_⟩
  intro c hc
  refine RetR.scal hq rfl ?_
  cases h : decide (x.errX = 0) with
  | false => rfl
  | true => rw [hc h]; rfl
def GNr : Nat → Option Ctr := fun f => if f = 9 then some (checkXC) else if f = 25 then some (rsortAll) else none
theorem GNr_ok : ∀ g c, GNr g = some c → CtrOK Tryd.prog g c := by
  intro g c h
  unfold GNr at h
  by_cases hg : g = 9
  · subst hg
    rw [if_pos rfl] at h
    cases h
    exact rcheckX_ok
  rw [if_neg hg] at h
  clear hg
  by_cases hg : g = 25
  · subst hg
    rw [if_pos rfl] at h
    cases h
    exact rsort_ok
  rw [if_neg hg] at h
  clear hg
  cases h

theorem rnum_ok : CtrOK Tryd.prog 11 (numXC 1) := by
  refine fn_ctrP (fn := Tryd.f11) (c := Tryd.f11.body.getD .skip) rfl rfl rfl fun x hx O w0 Q hq => ?_
  replace hq := hq _ rfl
  obtain ⟨h1, h2⟩ := hx
  refine SafeK.run (k := K11) hmix GNr_ok [] 400 (T := Tree.ex (fun (x_1 : Ex) => eqL [AV.agg [AV.int IntKind.u8 (Ex.kind x), AV.str (Ex.rat x), AV.str (Ex.name x), AV.int IntKind.i64 (Ex.date x), AV.sl (List.length (Ex.sub x)) (5 : Nat) (Ex.exG (Ex.sub x))]] [AV.agg [AV.int IntKind.u8 (Ex.kind x_1), AV.str (Ex.rat x_1), AV.str (Ex.name x_1), AV.int IntKind.i64 (Ex.date x_1), AV.sl (List.length (Ex.sub x_1)) (5 : Nat) (Ex.exG (Ex.sub x_1))]] ∧ Ex.size x_1 < (1099511627776 : Nat) ∧ Ex.bytesE x_1 < (1099511627776 : Nat)) fun (n : Ex) => Tree.all (fun (r : Int) => r = Ex.errX n) fun (n : Int) => Tree.ex (fun (x_1 : Ex) => decide (n = (0 : Int)) = true → eqL [AV.agg [AV.int IntKind.u8 (Ex.kind x), AV.str (Ex.rat x), AV.str (Ex.name x), AV.int IntKind.i64 (Ex.date x), AV.sl (List.length (Ex.sub x)) (5 : Nat) (Ex.exG (Ex.sub x))]] [AV.agg [AV.int IntKind.u8 (Ex.kind x_1), AV.str (Ex.rat x_1), AV.str (Ex.name x_1), AV.int IntKind.i64 (Ex.date x_1), AV.sl (List.length (Ex.sub x_1)) (5 : Nat) (Ex.exG (Ex.sub x_1))]] ∧ Ex.size x_1 < (1099511627776 : Nat) ∧ Ex.bytesE x_1 < (1099511627776 : Nat)) fun (n_1 : Ex) => Tree.all (fun (x : Int) => decide (n = (0 : Int)) = true → x = Ex.sortE n_1) fun (n_2 : Int) => Tree.leaf (Leaf2.ret [AV.bool (bif decide (n = (0 : Int)) then decide (n_2 = (1 : Int)) else false)] [Blk.box [AV.int IntKind.u8 (Ex.kind x), AV.str (Ex.rat x), AV.str (Ex.name x), AV.int IntKind.i64 (Ex.date x), AV.sl (List.length (Ex.sub x)) (5 : Nat) (Ex.exG (Ex.sub x))]])) (by kernel_rfl) ?_
  simp only [Tree.holds, Leafs2, inR, lo, hi, Int.toNat_natCast]
  refine ⟨x, ⟨eqX x, by omega, by omega⟩, ⟨_, rfl⟩, ?_⟩
  rintro _ rfl
  refine ⟨x, fun _ => ⟨eqX x, by omega, by omega⟩, ⟨_, fun _ => rfl⟩, ?_⟩
  intro c hc
  refine RetR.scal hq rfl ?_
  cases h : decide (x.errX = 0) with
  | false => rfl
  | true => rw [hc h]; rfl
theorem rtruth_ok : CtrOK Tryd.prog 13 (numXC 2) := by
  refine fn_ctrP (fn := Tryd.f13) (c := Tryd.f13.body.getD .skip) rfl rfl rfl fun x hx O w0 Q hq => ?_
  replace hq := hq _ rfl
  obtain ⟨h1, h2⟩ := hx
  refine SafeK.run (k := K13) hmix GNr_ok [] 400 (T := Tree.ex (fun (x_1 : Ex) => eqL [AV.agg [AV.int IntKind.u8 (Ex.kind x), AV.str (Ex.rat x), AV.str (Ex.name x), AV.int IntKind.i64 (Ex.date x), AV.sl (List.length (Ex.sub x)) (5 : Nat) (Ex.exG (Ex.sub x))]] [AV.agg [AV.int IntKind.u8 (Ex.kind x_1), AV.str (Ex.rat x_1), AV.str (Ex.name x_1), AV.int IntKind.i64 (Ex.date x_1), AV.sl (List.length (Ex.sub x_1)) (5 : Nat) (Ex.exG (Ex.sub x_1))]] ∧ Ex.size x_1 < (1099511627776 : Nat) ∧ Ex.bytesE x_1 < (1099511627776 : Nat)) fun (n : Ex) => Tree.all (fun (r : Int) => r = Ex.errX n) fun (n : Int) => Tree.ex (fun (x_1 : Ex) => decide (n = (0 : Int)) = true → eqL [AV.agg [AV.int IntKind.u8 (Ex.kind x), AV.str (Ex.rat x), AV.str (Ex.name x), AV.int IntKind.i64 (Ex.date x), AV.sl (List.length (Ex.sub x)) (5 : Nat) (Ex.exG (Ex.sub x))]] [AV.agg [AV.int IntKind.u8 (Ex.kind x_1), AV.str (Ex.rat x_1), AV.str (Ex.name x_1), AV.int IntKind.i64 (Ex.date x_1), AV.sl (List.length (Ex.sub x_1)) (5 : Nat) (Ex.exG (Ex.sub x_1))]] ∧ Ex.size x_1 < (1099511627776 : Nat) ∧ Ex.bytesE x_1 < (1099511627776 : Nat)) fun (n_1 : Ex) => Tree.all (fun (x : Int) => decide (n = (0 : Int)) = true → x = Ex.sortE n_1) fun (n_2 : Int) => Tree.leaf (Leaf2.ret [AV.bool (bif decide (n = (0 : Int)) then decide (n_2 = (2 : Int)) else false)] [Blk.box [AV.int IntKind.u8 (Ex.kind x), AV.str (Ex.rat x), AV.str (Ex.name x), AV.int IntKind.i64 (Ex.date x), AV.sl (List.length (Ex.sub x)) (5 : Nat) (Ex.exG (Ex.sub x))]])) (by kernel_rfl) ?_
  simp only [Tree.holds, Leafs2, inR, lo, hi, Int.toNat_natCast]
  refine ⟨x, ⟨eqX x, by omega, by omega⟩, ⟨_, rfl⟩, ?_⟩
  rintro _ rfl
  refine ⟨x, fun _ => ⟨eqX x, by omega, by omega⟩, ⟨_, fun _ => rfl⟩, ?_⟩
  intro c hc
  refine RetR.scal hq rfl ?_
  cases h : decide (x.errX = 0) with
  | false => rfl
  | true => rw [hc h]; rfl
end Go.Proofs.Tryd
end

/- Expressions: equality. -/
section
set_option linter.unusedVariables false
set_option linter.unusedSimpArgs false
set_option maxRecDepth 100000
open Go Go.Sx Go.Proofs Go.Nov
namespace Go.Proofs.Tryd
attribute [local simp] eqKV eqA eqA0 eqH eqB eqL eqL0
noncomputable def K26 : List Go.Sx.Item := [.code (Tryd.f26.body.getD .skip)]
noncomputable def K16 : List Go.Sx.Item := [.code (Tryd.f16.body.getD .skip)]
noncomputable def K17 : List Go.Sx.Item := [.code (Tryd.f17.body.getD .skip)]
def sameXC (n : Nat) : Ctr := ctrP true (fun p : Ex × Ex => [p.1.exA, p.2.exA]) (fun p => p.1.size < n ∧ p.1.size < 2 ^ 60) (fun p r => (r = true ↔ p.1 = p.2)) (fun _ (r : Bool) => (.bool r, []))
def eqfC (n : Nat) : Ctr := ctrP true (fun p : List Ex × List Ex => [Ex.exS p.1, Ex.exS p.2, .fn 16 [] []]) (fun p => Ex.sizes p.1 < n ∧ Ex.sizes p.1 < 2 ^ 60) (fun p r => (r = true ↔ p.1 = p.2)) (fun _ (r : Bool) => (.bool r, []))
theorem ex_bool (p : Prop) : ∃ b : Bool, b = true ↔ p := by
  by_cases h : p
  · exact ⟨true, by simp [h]⟩
  · exact ⟨false, by simp [h]⟩
def SEq (s t : List Ex) (i : Nat) : KV := [(1, Ex.exS t), (2, .fn 16 [] []), (15, Ex.exS s), (16, .int .i64 (s.length : Int)), (17, .int .i64 (i : Int))]

theorem eqf_of (n : Nat) (ih : CtrOK Tryd.prog 16 (sameXC n)) : CtrOK Tryd.prog 26 (eqfC n) := by
  refine fn_ctrP (fn := Tryd.f26) (c := Tryd.f26.body.getD .skip) rfl rfl rfl fun p hp O w0 Q hq => ?_
  obtain ⟨s, t⟩ := p
  obtain ⟨h1, h2⟩ := hp
  simp only at h1 h2 hq
  have hlen := Ex.length_le_sizes s
  refine SafeK.run (k := K26) hmix (G1c_ok ih) [1, 2, 15, 16, 17] 400 (T := Tree.ite (!decide ((↑(List.length s) : Int) = (↑(List.length t) : Int))) (Tree.leaf (Leaf2.ret [AV.bool false] [])) (Tree.leaf (Leaf2.loop (Prod.fst (lps K26 (0 : Nat))) (Prod.snd (lps K26 (0 : Nat))) [((1 : Nat), AV.sl (List.length t) (5 : Nat) (Ex.exG t)), ((2 : Nat), AV.fn (16 : Nat) [] []), ((15 : Nat), AV.sl (List.length s) (5 : Nat) (Ex.exG s)), ((16 : Nat), AV.int IntKind.i64 (↑(List.length s) : Int)), ((17 : Nat), AV.int IntKind.i64 (0 : Int))] []))) (by kernel_rfl) ?_
  simp only [Tree.holds, Leafs2, inR, lo, hi, Int.toNat_natCast]
  refine ⟨fun h => ?_, fun h => ?_⟩
  · refine RetR.scal (hq false ⟨fun h => (by cases h), fun he => ?_⟩) rfl (by simp [resV])
    subst he
    simp at h
  · have hl : s.length = t.length := by
      by_cases e1 : s.length = t.length
      · exact e1
      · rw [decide_eq_false (show ¬ ((s.length : Nat) : Int) = t.length by omega)] at h
        cases h
    refine SafeK.loop (ι := {i : Nat // i ≤ s.length ∧ ∀ j, j < i → s.getD j Ex.nil = t.getD j Ex.nil}) (fun i => SEq s t i.1) (fun _ => []) (fun i => s.length - i.1) ⟨0, Nat.zero_le _, fun j hj => by omega⟩ 0 ?_ ?_ (by kernel_rfl)
    · exact ⟨by simp [SEq, Ex.exS, eqG_refl], by simp, by kernel_rfl, Nat.zero_le _⟩
    · rintro ⟨i, hil, hib⟩
      refine SafeK.run (k := inside K26 0) hmix (G1c_ok ih) [1, 2, 15, 16, 17] 400 (T := Tree.ite (decide ((↑i : Int) < (↑(List.length s) : Int))) (Tree.side ((0 : Int) ≤ (↑i : Int) ∧ (↑i : Int) < (↑(List.length s) : Int)) (Tree.side ((0 : Int) ≤ (↑i : Int) ∧ (↑i : Int) < (↑(List.length t) : Int)) (Tree.ex (fun (x : Ex × Ex) => eqL [AV.agg [AV.int IntKind.u8 (Ex.kind (List.getD s (Int.toNat (↑i : Int)) Ex.nil)), AV.str (Ex.rat (List.getD s (Int.toNat (↑i : Int)) Ex.nil)), AV.str (Ex.name (List.getD s (Int.toNat (↑i : Int)) Ex.nil)), AV.int IntKind.i64 (Ex.date (List.getD s (Int.toNat (↑i : Int)) Ex.nil)), AV.sl (List.length (Ex.sub (List.getD s (Int.toNat (↑i : Int)) Ex.nil))) (5 : Nat) (Ex.deep (List.getD s (Int.toNat (↑i : Int)) Ex.nil))], AV.agg [AV.int IntKind.u8 (Ex.kind (List.getD t (Int.toNat (↑i : Int)) Ex.nil)), AV.str (Ex.rat (List.getD t (Int.toNat (↑i : Int)) Ex.nil)), AV.str (Ex.name (List.getD t (Int.toNat (↑i : Int)) Ex.nil)), AV.int IntKind.i64 (Ex.date (List.getD t (Int.toNat (↑i : Int)) Ex.nil)), AV.sl (List.length (Ex.sub (List.getD t (Int.toNat (↑i : Int)) Ex.nil))) (5 : Nat) (Ex.deep (List.getD t (Int.toNat (↑i : Int)) Ex.nil))]] [AV.agg [AV.int IntKind.u8 (Ex.kind (Prod.fst x)), AV.str (Ex.rat (Prod.fst x)), AV.str (Ex.name (Prod.fst x)), AV.int IntKind.i64 (Ex.date (Prod.fst x)), AV.sl (List.length (Ex.sub (Prod.fst x))) (5 : Nat) (Ex.exG (Ex.sub (Prod.fst x)))], AV.agg [AV.int IntKind.u8 (Ex.kind (Prod.snd x)), AV.str (Ex.rat (Prod.snd x)), AV.str (Ex.name (Prod.snd x)), AV.int IntKind.i64 (Ex.date (Prod.snd x)), AV.sl (List.length (Ex.sub (Prod.snd x))) (5 : Nat) (Ex.exG (Ex.sub (Prod.snd x)))]] ∧ Ex.size (Prod.fst x) < n ∧ Ex.size (Prod.fst x) < (1152921504606846976 : Nat)) fun (n : Ex × Ex) => Tree.all (fun (r : Bool) => r = true ↔ Prod.fst n = Prod.snd n) fun (n : Bool) => Tree.ite (!n) (Tree.leaf (Leaf2.ret [AV.bool false] [Blk.box [AV.int IntKind.u8 (Ex.kind (List.getD s (Int.toNat (↑i : Int)) Ex.nil)), AV.str (Ex.rat (List.getD s (Int.toNat (↑i : Int)) Ex.nil)), AV.str (Ex.name (List.getD s (Int.toNat (↑i : Int)) Ex.nil)), AV.int IntKind.i64 (Ex.date (List.getD s (Int.toNat (↑i : Int)) Ex.nil)), AV.sl (List.length (Ex.sub (List.getD s (Int.toNat (↑i : Int)) Ex.nil))) (5 : Nat) (Ex.deep (List.getD s (Int.toNat (↑i : Int)) Ex.nil))], Blk.box [AV.int IntKind.u8 (Ex.kind (List.getD t (Int.toNat (↑i : Int)) Ex.nil)), AV.str (Ex.rat (List.getD t (Int.toNat (↑i : Int)) Ex.nil)), AV.str (Ex.name (List.getD t (Int.toNat (↑i : Int)) Ex.nil)), AV.int IntKind.i64 (Ex.date (List.getD t (Int.toNat (↑i : Int)) Ex.nil)), AV.sl (List.length (Ex.sub (List.getD t (Int.toNat (↑i : Int)) Ex.nil))) (5 : Nat) (Ex.deep (List.getD t (Int.toNat (↑i : Int)) Ex.nil))]])) (Tree.side (inR IntKind.i64 ((↑i : Int) + (1 : Int))) (Tree.leaf (Leaf2.back (0 : Nat) [((1 : Nat), AV.sl (List.length t) (5 : Nat) (Ex.exG t)), ((2 : Nat), AV.fn (16 : Nat) [] []), ((15 : Nat), AV.sl (List.length s) (5 : Nat) (Ex.exG s)), ((16 : Nat), AV.int IntKind.i64 (↑(List.length s) : Int)), ((17 : Nat), AV.int IntKind.i64 ((↑i : Int) + (1 : Int)))] [Blk.box [AV.int IntKind.u8 (Ex.kind (List.getD s (Int.toNat (↑i : Int)) Ex.nil)), AV.str (Ex.rat (List.getD s (Int.toNat (↑i : Int)) Ex.nil)), AV.str (Ex.name (List.getD s (Int.toNat (↑i : Int)) Ex.nil)), AV.int IntKind.i64 (Ex.date (List.getD s (Int.toNat (↑i : Int)) Ex.nil)), AV.sl (List.length (Ex.sub (List.getD s (Int.toNat (↑i : Int)) Ex.nil))) (5 : Nat) (Ex.deep (List.getD s (Int.toNat (↑i : Int)) Ex.nil))], Blk.box [AV.int IntKind.u8 (Ex.kind (List.getD t (Int.toNat (↑i : Int)) Ex.nil)), AV.str (Ex.rat (List.getD t (Int.toNat (↑i : Int)) Ex.nil)), AV.str (Ex.name (List.getD t (Int.toNat (↑i : Int)) Ex.nil)), AV.int IntKind.i64 (Ex.date (List.getD t (Int.toNat (↑i : Int)) Ex.nil)), AV.sl (List.length (Ex.sub (List.getD t (Int.toNat (↑i : Int)) Ex.nil))) (5 : Nat) (Ex.deep (List.getD t (Int.toNat (↑i : Int)) Ex.nil))]])))))) (Tree.leaf (Leaf2.ret [AV.bool true] []))) (by kernel_rfl) ?_
      simp only [Tree.holds, Leafs2, inR, lo, hi, Int.toNat_natCast]
      refine ⟨fun hlt => ?_, fun hge => ?_⟩
      · have hlt : i < s.length := by have := of_decide_eq_true hlt; omega
        have hg := Ex.sizes_get hlt
        refine ⟨by omega, fun _ => ⟨by omega, fun _ => ⟨(s.getD i Ex.nil, t.getD i Ex.nil), ⟨⟨⟨⟨rfl, rfl⟩, rfl, rfl, ⟨rfl, rfl⟩, ⟨rfl, rfl, Ex.deep_eq _⟩, trivial⟩, ⟨⟨rfl, rfl⟩, rfl, rfl, ⟨rfl, rfl⟩, ⟨rfl, rfl, Ex.deep_eq _⟩, trivial⟩, trivial⟩, by show (s.getD i Ex.nil).size < n; omega, by show (s.getD i Ex.nil).size < _; omega⟩, ex_bool _, ?_⟩⟩⟩
        intro e he
        simp only at he
        refine ⟨fun g => ?_, fun g => ⟨by omega, fun _ => ?_⟩⟩
        · refine RetR.scal (hq false ⟨fun h => (by cases h), fun h3 => ?_⟩) rfl (by simp [resV])
          have : e = true := he.2 (by rw [h3])
          rw [this] at g; cases g
        · rw [if_pos trivial]
          have g : e = true := by simpa using g
          refine ⟨⟨i + 1, hlt, fun j hj => ?_⟩, by show s.length - (i + 1) < s.length - i; omega, by simp [SEq, Ex.exS, eqG_refl], by simp, by kernel_rfl, Nat.zero_le _⟩
          rcases Nat.lt_or_ge j i with h1 | h1
          · exact hib j h1
          · have : j = i := by omega
            rw [this]; exact he.1 g
      · have hge : i = s.length := by have := of_decide_eq_false hge; omega
        subst hge
        exact RetR.scal (hq true ⟨fun _ => Ex.list_same hl hib, fun _ => rfl⟩) rfl (by simp [resV])

theorem sameX_step (n : Nat) (ih : CtrOK Tryd.prog 16 (sameXC n)) : CtrOK Tryd.prog 16 (sameXC (n + 1)) := by
  refine fn_ctrP (fn := Tryd.f16) (c := Tryd.f16.body.getD .skip) rfl rfl rfl fun p hp O w0 Q hq => ?_
  obtain ⟨x, y⟩ := p
  obtain ⟨h1, h2⟩ := hp
  simp only at h1 h2 hq
  rw [Ex.size_eq] at h1 h2
  refine SafeK.run (k := K16) hmix (G1c_ok (eqf_of n ih)) [] 400 (T := Tree.ex (fun (x_1 : List Ex × List Ex) => (bif bif bif decide (Ex.kind x = Ex.kind y) then decide (Ex.rat x = Ex.rat y) else false then decide (Ex.name x = Ex.name y) else false then decide (Ex.date x = Ex.date y) else false) = true → eqL [AV.sl (List.length (Ex.sub x)) (5 : Nat) (Ex.exG (Ex.sub x)), AV.sl (List.length (Ex.sub y)) (5 : Nat) (Ex.exG (Ex.sub y)), AV.fn (16 : Nat) [] []] [AV.sl (List.length (Prod.fst x_1)) (5 : Nat) (Ex.exG (Prod.fst x_1)), AV.sl (List.length (Prod.snd x_1)) (5 : Nat) (Ex.exG (Prod.snd x_1)), AV.fn (16 : Nat) [] []] ∧ Ex.sizes (Prod.fst x_1) < n ∧ Ex.sizes (Prod.fst x_1) < (1152921504606846976 : Nat)) fun (n : List Ex × List Ex) => Tree.all (fun (x_1 : Bool) => (bif bif bif decide (Ex.kind x = Ex.kind y) then decide (Ex.rat x = Ex.rat y) else false then decide (Ex.name x = Ex.name y) else false then decide (Ex.date x = Ex.date y) else false) = true → (x_1 = true ↔ Prod.fst n = Prod.snd n)) fun (n : Bool) => Tree.leaf (Leaf2.ret [AV.bool (bif bif bif bif decide (Ex.kind x = Ex.kind y) then decide (Ex.rat x = Ex.rat y) else false then decide (Ex.name x = Ex.name y) else false then decide (Ex.date x = Ex.date y) else false then n else false)] [Blk.box [AV.int IntKind.u8 (Ex.kind x), AV.str (Ex.rat x), AV.str (Ex.name x), AV.int IntKind.i64 (Ex.date x), AV.sl (List.length (Ex.sub x)) (5 : Nat) (Ex.exG (Ex.sub x))], Blk.box [AV.int IntKind.u8 (Ex.kind y), AV.str (Ex.rat y), AV.str (Ex.name y), AV.int IntKind.i64 (Ex.date y), AV.sl (List.length (Ex.sub y)) (5 : Nat) (Ex.exG (Ex.sub y))]])) (by kernel_rfl) ?_
  simp only [Tree.holds, Leafs2, inR, lo, hi, Int.toNat_natCast]
  refine ⟨(x.sub, y.sub), fun _ => ⟨⟨⟨rfl, rfl, eqG_refl _ _ _⟩, ⟨rfl, rfl, eqG_refl _ _ _⟩, by simp, trivial⟩, by show Ex.sizes x.sub < n; omega, by show Ex.sizes x.sub < _; omega⟩, (ex_bool _).imp fun _ h _ => h, ?_⟩
  intro e he
  refine RetR.scal (hq (bif (bif bif bif decide (x.kind = y.kind) then decide (x.rat = y.rat) else false then decide (x.name = y.name) else false then decide (x.date = y.date) else false) then e else false) ?_) rfl (by simp [resV])
  rw [Ex.same_iff]
  by_cases g1 : x.kind = y.kind
  · by_cases g2 : x.rat = y.rat
    · by_cases g3 : x.name = y.name
      · by_cases g4 : x.date = y.date
        · have := he (by simp [g1, g2, g3, g4])
          simp [g1, g2, g3, g4]
          exact this
        · simp [g4]
      · simp [g3]
    · simp [g2]
  · simp [g1]
def sameXAll : Ctr := ctrP true (fun p : Ex × Ex => [p.1.exA, p.2.exA]) (fun p => p.1.size < 2 ^ 60) (fun p r => (r = true ↔ p.1 = p.2)) (fun _ (r : Bool) => (.bool r, []))
theorem sameX_ok : CtrOK Tryd.prog 16 sameXAll := ctrP_rec (fun p => p.1.size) sameX_step
def SSm (i : Nat) : KV := [(2, .ptr 0 0), (3, .ptr 1 0), (5, .int .i64 (i : Int))]
def HSm (x y : Ex) : Heap := [.box [.int .u8 x.kind, .str x.rat, .str x.name, .int .i64 x.date, Ex.exS x.sub], .box [.int .u8 y.kind, .str y.rat, .str y.name, .int .i64 y.date, Ex.exS y.sub]]

theorem rsameX_step (n : Nat) (ih : CtrOK Tryd.prog 17 (sameXC n)) : CtrOK Tryd.prog 17 (sameXC (n + 1)) := by
  refine fn_ctrP (fn := Tryd.f17) (c := Tryd.f17.body.getD .skip) rfl rfl rfl fun p hp O w0 Q hq => ?_
  obtain ⟨x, y⟩ := p
  obtain ⟨h1, h2⟩ := hp
  simp only at h1 h2 hq
  rw [Ex.size_eq] at h1 h2
  have hlen := Ex.length_le_sizes x.sub
  refine SafeK.run (k := K17) hmix (G1c_ok ih) [2, 3, 5] 400 (T := Tree.ite (bif bif bif bif !decide (Ex.kind x = Ex.kind y) then true else !decide (Ex.rat x = Ex.rat y) then true else !decide (Ex.name x = Ex.name y) then true else !decide (Ex.date x = Ex.date y) then true else !decide ((↑(List.length (Ex.sub x)) : Int) = (↑(List.length (Ex.sub y)) : Int))) (Tree.leaf (Leaf2.ret [AV.bool false] [Blk.box [AV.int IntKind.u8 (Ex.kind x), AV.str (Ex.rat x), AV.str (Ex.name x), AV.int IntKind.i64 (Ex.date x), AV.sl (List.length (Ex.sub x)) (5 : Nat) (Ex.exG (Ex.sub x))], Blk.box [AV.int IntKind.u8 (Ex.kind y), AV.str (Ex.rat y), AV.str (Ex.name y), AV.int IntKind.i64 (Ex.date y), AV.sl (List.length (Ex.sub y)) (5 : Nat) (Ex.exG (Ex.sub y))]])) (Tree.leaf (Leaf2.loop (Prod.fst (lps K17 (0 : Nat))) (Prod.snd (lps K17 (0 : Nat))) [((2 : Nat), AV.ptr (0 : Nat) (0 : Nat)), ((3 : Nat), AV.ptr (1 : Nat) (0 : Nat)), ((5 : Nat), AV.int IntKind.i64 (0 : Int))] [Blk.box [AV.int IntKind.u8 (Ex.kind x), AV.str (Ex.rat x), AV.str (Ex.name x), AV.int IntKind.i64 (Ex.date x), AV.sl (List.length (Ex.sub x)) (5 : Nat) (Ex.exG (Ex.sub x))], Blk.box [AV.int IntKind.u8 (Ex.kind y), AV.str (Ex.rat y), AV.str (Ex.name y), AV.int IntKind.i64 (Ex.date y), AV.sl (List.length (Ex.sub y)) (5 : Nat) (Ex.exG (Ex.sub y))]]))) (by kernel_rfl) ?_
  simp only [Tree.holds, Leafs2, inR, lo, hi, Int.toNat_natCast]
  refine ⟨fun h => ?_, fun h => ?_⟩
  · refine RetR.scal (hq false ⟨fun h => (by cases h), fun he => ?_⟩) rfl (by simp [resV])
    subst he
    simp at h
  · simp at h
    obtain ⟨⟨⟨⟨g1, g2⟩, g3⟩, g4⟩, g5⟩ := h
    have g5 : x.sub.length = y.sub.length := by omega
    refine SafeK.loop (ι := {i : Nat // i ≤ x.sub.length ∧ ∀ j, j < i → x.sub.getD j Ex.nil = y.sub.getD j Ex.nil}) (fun i => SSm i.1) (fun _ => HSm x y) (fun i => x.sub.length - i.1) ⟨0, Nat.zero_le _, fun j hj => by omega⟩ 0 ?_ ?_ (by kernel_rfl)
    · exact ⟨by simp [SSm], by simp [HSm, Ex.exS, eqG_refl], by kernel_rfl, Nat.zero_le _⟩
    · rintro ⟨i, hil, hib⟩
      refine SafeK.run (k := inside K17 0) hmix (G1c_ok ih) [2, 3, 5] 400 (T := Tree.ite (decide ((↑i : Int) < (↑(List.length (Ex.sub x)) : Int))) (Tree.side ((0 : Int) ≤ (↑i : Int) ∧ (↑i : Int) < (↑(List.length (Ex.sub x)) : Int)) (Tree.side ((0 : Int) ≤ (↑i : Int) ∧ (↑i : Int) < (↑(List.length (Ex.sub y)) : Int)) (Tree.ex (fun (x_1 : Ex × Ex) => eqL [AV.agg [AV.int IntKind.u8 (Ex.kind (List.getD (Ex.sub x) (Int.toNat (↑i : Int)) Ex.nil)), AV.str (Ex.rat (List.getD (Ex.sub x) (Int.toNat (↑i : Int)) Ex.nil)), AV.str (Ex.name (List.getD (Ex.sub x) (Int.toNat (↑i : Int)) Ex.nil)), AV.int IntKind.i64 (Ex.date (List.getD (Ex.sub x) (Int.toNat (↑i : Int)) Ex.nil)), AV.sl (List.length (Ex.sub (List.getD (Ex.sub x) (Int.toNat (↑i : Int)) Ex.nil))) (5 : Nat) (Ex.deep (List.getD (Ex.sub x) (Int.toNat (↑i : Int)) Ex.nil))], AV.agg [AV.int IntKind.u8 (Ex.kind (List.getD (Ex.sub y) (Int.toNat (↑i : Int)) Ex.nil)), AV.str (Ex.rat (List.getD (Ex.sub y) (Int.toNat (↑i : Int)) Ex.nil)), AV.str (Ex.name (List.getD (Ex.sub y) (Int.toNat (↑i : Int)) Ex.nil)), AV.int IntKind.i64 (Ex.date (List.getD (Ex.sub y) (Int.toNat (↑i : Int)) Ex.nil)), AV.sl (List.length (Ex.sub (List.getD (Ex.sub y) (Int.toNat (↑i : Int)) Ex.nil))) (5 : Nat) (Ex.deep (List.getD (Ex.sub y) (Int.toNat (↑i : Int)) Ex.nil))]] [AV.agg [AV.int IntKind.u8 (Ex.kind (Prod.fst x_1)), AV.str (Ex.rat (Prod.fst x_1)), AV.str (Ex.name (Prod.fst x_1)), AV.int IntKind.i64 (Ex.date (Prod.fst x_1)), AV.sl (List.length (Ex.sub (Prod.fst x_1))) (5 : Nat) (Ex.exG (Ex.sub (Prod.fst x_1)))], AV.agg [AV.int IntKind.u8 (Ex.kind (Prod.snd x_1)), AV.str (Ex.rat (Prod.snd x_1)), AV.str (Ex.name (Prod.snd x_1)), AV.int IntKind.i64 (Ex.date (Prod.snd x_1)), AV.sl (List.length (Ex.sub (Prod.snd x_1))) (5 : Nat) (Ex.exG (Ex.sub (Prod.snd x_1)))]] ∧ Ex.size (Prod.fst x_1) < n ∧ Ex.size (Prod.fst x_1) < (1152921504606846976 : Nat)) fun (n : Ex × Ex) => Tree.all (fun (r : Bool) => r = true ↔ Prod.fst n = Prod.snd n) fun (n : Bool) => Tree.ite (!n) (Tree.leaf (Leaf2.ret [AV.bool false] [Blk.box [AV.int IntKind.u8 (Ex.kind x), AV.str (Ex.rat x), AV.str (Ex.name x), AV.int IntKind.i64 (Ex.date x), AV.sl (List.length (Ex.sub x)) (5 : Nat) (Ex.exG (Ex.sub x))], Blk.box [AV.int IntKind.u8 (Ex.kind y), AV.str (Ex.rat y), AV.str (Ex.name y), AV.int IntKind.i64 (Ex.date y), AV.sl (List.length (Ex.sub y)) (5 : Nat) (Ex.exG (Ex.sub y))]])) (Tree.side (inR IntKind.i64 ((↑i : Int) + (1 : Int))) (Tree.leaf (Leaf2.back (0 : Nat) [((2 : Nat), AV.ptr (0 : Nat) (0 : Nat)), ((3 : Nat), AV.ptr (1 : Nat) (0 : Nat)), ((5 : Nat), AV.int IntKind.i64 ((↑i : Int) + (1 : Int)))] [Blk.box [AV.int IntKind.u8 (Ex.kind x), AV.str (Ex.rat x), AV.str (Ex.name x), AV.int IntKind.i64 (Ex.date x), AV.sl (List.length (Ex.sub x)) (5 : Nat) (Ex.exG (Ex.sub x))], Blk.box [AV.int IntKind.u8 (Ex.kind y), AV.str (Ex.rat y), AV.str (Ex.name y), AV.int IntKind.i64 (Ex.date y), AV.sl (List.length (Ex.sub y)) (5 : Nat) (Ex.exG (Ex.sub y))]])))))) (Tree.leaf (Leaf2.ret [AV.bool true] [Blk.box [AV.int IntKind.u8 (Ex.kind x), AV.str (Ex.rat x), AV.str (Ex.name x), AV.int IntKind.i64 (Ex.date x), AV.sl (List.length (Ex.sub x)) (5 : Nat) (Ex.exG (Ex.sub x))], Blk.box [AV.int IntKind.u8 (Ex.kind y), AV.str (Ex.rat y), AV.str (Ex.name y), AV.int IntKind.i64 (Ex.date y), AV.sl (List.length (Ex.sub y)) (5 : Nat) (Ex.exG (Ex.sub y))]]))) (by kernel_rfl) ?_
      simp only [Tree.holds, Leafs2, inR, lo, hi, Int.toNat_natCast]
      refine ⟨fun hlt => ?_, fun hge => ?_⟩
      · have hlt : i < x.sub.length := by have := of_decide_eq_true hlt; omega
        have hg := Ex.sizes_get hlt
        refine ⟨by omega, fun _ => ⟨by omega, fun _ => ⟨(x.sub.getD i Ex.nil, y.sub.getD i Ex.nil), ⟨⟨⟨⟨rfl, rfl⟩, rfl, rfl, ⟨rfl, rfl⟩, ⟨rfl, rfl, Ex.deep_eq _⟩, trivial⟩, ⟨⟨rfl, rfl⟩, rfl, rfl, ⟨rfl, rfl⟩, ⟨rfl, rfl, Ex.deep_eq _⟩, trivial⟩, trivial⟩, by show (x.sub.getD i Ex.nil).size < n; omega, by show (x.sub.getD i Ex.nil).size < _; omega⟩, ex_bool _, ?_⟩⟩⟩
        intro e he
        simp only at he
        refine ⟨fun g => ?_, fun g => ⟨by omega, fun _ => ?_⟩⟩
        · refine RetR.scal (hq false ⟨fun h => (by cases h), fun h3 => ?_⟩) rfl (by simp [resV])
          have : e = true := he.2 (by rw [h3])
          rw [this] at g; cases g
        · rw [if_pos trivial]
          have g : e = true := by simpa using g
          refine ⟨⟨i + 1, hlt, fun j hj => ?_⟩, by show x.sub.length - (i + 1) < x.sub.length - i; omega, by simp [SSm], by simp [HSm, Ex.exS, eqG_refl], by kernel_rfl, Nat.zero_le _⟩
          rcases Nat.lt_or_ge j i with h1 | h1
          · exact hib j h1
          · have : j = i := by omega
            rw [this]; exact he.1 g
      · have hge : i = x.sub.length := by have := of_decide_eq_false hge; omega
        subst hge
        exact RetR.scal (hq true ⟨fun _ => Ex.same_iff.2 ⟨g1, g2, g3, g4, Ex.list_same g5 hib⟩, fun _ => rfl⟩) rfl (by simp [resV])
theorem rsameX_ok : CtrOK Tryd.prog 17 sameXAll := ctrP_rec (fun p => p.1.size) rsameX_step
end Go.Proofs.Tryd
end
