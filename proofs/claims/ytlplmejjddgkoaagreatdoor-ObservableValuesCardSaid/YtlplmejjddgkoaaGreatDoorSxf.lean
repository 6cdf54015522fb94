/- Part 6 of the proof. -/
import Derived.Test.YtlplmejjddgkoaaGreatDoorSxe
set_option linter.unusedVariables false
set_option linter.unusedSimpArgs false
set_option linter.unusedSectionVars false

/- Expressions: the reference's sorts. -/
section
set_option maxRecDepth 100000
open Go Go.Sx Go.Proofs Go.Nov
namespace Go.Proofs.Tryz
attribute [local simp] eqKV eqA eqA0 eqH eqB eqL eqL0
noncomputable def K45 : List Go.Sx.Item := [.code (Tryz.f45.body.getD .skip)]
def Z1 (n : Nat) : Ctr := ctrP true (fun x : Ex => [x.exA]) (fun x => x.size < n ∧ x.size < 2 ^ 40 ∧ x.zx < 2 ^ 40) (fun x r => r = x.z9) (fun _ (r : Int) => (.int .i64 r, []))
def GRs (n : Nat) : Nat → Option Ctr := fun f => if f = 45 then some (Z1 n) else if f = 78 then some xE else if f = 79 then some uh else if f = 47 then some wS else none
theorem zay {n : Nat} (h : zc Tryz.prog 45 (Z1 n)) : ∀ f c, GRs n f = some c → zc Tryz.prog f c := by
 intro f c hf
 simp only [GRs] at hf
 by_cases hg : f = 45
 ·subst hg; rw [if_pos rfl] at hf; cases hf; exact h
 rw [if_neg hg] at hf
 by_cases hg : f = 78
 ·subst hg; rw [if_pos rfl] at hf; cases hf; exact x3
 rw [if_neg hg] at hf
 by_cases hg : f = 79
 ·subst hg; rw [if_pos rfl] at hf; cases hf; exact Wh
 rw [if_neg hg] at hf
 by_cases hg : f = 47
 ·subst hg; rw [if_pos rfl] at hf; cases hf; exact Jj
 rw [if_neg hg] at hf
 cases hf
def SRs (b : Bool) (i : Nat) : KV := [(1, .ptr 0 0), (3, .bool b), (4, .osl 1 1 0 i), (5, .int .i64 (i : Int)), (43, .undef), (44, .undef), (47, .undef), (48, .undef), (49, .undef), (52, .undef), (53, .undef), (54, .undef), (57, .undef), (58, .undef), (59, .undef), (60, .undef), (67, .undef), (68, .undef), (71, .undef), (72, .undef), (73, .undef), (76, .undef), (77, .undef), (78, .undef), (81, .undef), (82, .undef), (83, .undef), (90, .undef), (91, .undef), (94, .undef), (95, .undef), (96, .undef), (99, .undef), (100, .undef), (101, .undef), (104, .undef), (105, .undef), (106, .undef), (113, .undef), (114, .undef), (115, .undef), (118, .undef), (121, .undef), (122, .undef), (125, .undef), (126, .undef), (127, .undef), (128, .undef), (131, .undef), (132, .undef), (133, .undef), (134, .undef), (141, .undef), (144, .undef), (145, .undef), (148, .undef), (149, .undef), (150, .undef), (151, .undef), (154, .undef), (155, .undef), (156, .undef), (157, .undef), (160, .undef), (161, .undef), (162, .undef), (163, .undef), (170, .undef), (171, .undef), (172, .undef), (175, .undef), (178, .undef), (179, .undef), (182, .undef), (183, .undef), (184, .undef), (185, .undef), (188, .undef), (189, .undef), (190, .undef), (191, .undef), (198, .undef), (199, .undef), (200, .undef), (203, .undef), (206, .undef), (207, .undef), (210, .undef), (211, .undef), (212, .undef), (213, .undef), (216, .undef), (217, .undef), (218, .undef), (219, .undef), (226, .undef), (229, .undef), (230, .undef), (233, .undef), (234, .undef), (235, .undef), (236, .undef)]
def HRs (k : Int) (r m : List UInt8) (d : Int) (s : List Ex) (l : List Int) (i : Nat) : Heap := [.box [.int .u8 k, .str r, .str m, .int .i64 d, Ex.exS s], .arr i 1 (intG l)]
theorem Yr {l : List Int} {v : Int} {i : Nat} (hl : l.length = i) : eqG (i + 1) 1 (appG i (intG l) (zj (zk 1 [.int .i64 v]) 0)) (intG (l ++ [v])) := by
 subst hl
 intro j o hj ho
 simp only [appG, zj, zk, intG]
 by_cases h : j < l.length
 ·rw [if_pos h]; simp [List.getD, List.getElem?_append_left h]
 ·have : j = l.length := by omega
  subst this
  have : o = 0 := by omega
  subst this
  rw [if_neg h]; simp [List.getD]
theorem Va (n : Nat) (ih : zc Tryz.prog 45 (Z1 n)) : zc Tryz.prog 45 (Z1 (n + 1)) := by
 refine ze (fn := Tryz.f45) (c := Tryz.f45.body.getD .skip) rfl rfl rfl fun x hx O w0 Q hq => ?_
 replace hq := hq _ rfl
 obtain ⟨hxn, hxs, hxb⟩ := hx
 rw [Ex.size_eq] at hxn hxs
 rw [Ex.y8] at hxb
 rw [Ex.yi] at hq
 obtain ⟨k, r, m, d, s⟩ := x
 simp only [Ex.sub, Ex.rat, Ex.name, Ex.kind, Ex.date] at hxn hxs hq hxb
 have hlen := Ex.zQ s
 refine zb.run hmix (zay ih) [1, 3, 4, 5, 43, 44, 47, 48, 49, 52, 53, 54, 57, 58, 59, 60, 67, 68, 71, 72, 73, 76, 77, 78, 81, 82, 83, 90, 91, 94, 95, 96, 99, 100, 101, 104, 105, 106, 113, 114, 115, 118, 121, 122, 125, 126, 127, 128, 131, 132, 133, 134, 141, 144, 145, 148, 149, 150, 151, 154, 155, 156, 157, 160, 161, 162, 163, 170, 171, 172, 175, 178, 179, 182, 183, 184, 185, 188, 189, 190, 191, 198, 199, 200, 203, 206, 207, 210, 211, 212, 213, 216, 217, 218, 219, 226, 229, 230, 233, 234, 235, 236] 400 (T := .leaf (.loop (Prod.fst (lps K45 0)) (Prod.snd (lps K45 0)) [(1, .ptr 0 0), (3, .bool (bif bif decide (r = Array.toList #[]) then decide (m = Array.toList #[]) else false then decide (d = 0) else false)), (4, .nils), (5, .int .i64 0), (43, .undef), (44, .undef), (47, .undef), (48, .undef), (49, .undef), (52, .undef), (53, .undef), (54, .undef), (57, .undef), (58, .undef), (59, .undef), (60, .undef), (67, .undef), (68, .undef), (71, .undef), (72, .undef), (73, .undef), (76, .undef), (77, .undef), (78, .undef), (81, .undef), (82, .undef), (83, .undef), (90, .undef), (91, .undef), (94, .undef), (95, .undef), (96, .undef), (99, .undef), (100, .undef), (101, .undef), (104, .undef), (105, .undef), (106, .undef), (113, .undef), (114, .undef), (115, .undef), (118, .undef), (121, .undef), (122, .undef), (125, .undef), (126, .undef), (127, .undef), (128, .undef), (131, .undef), (132, .undef), (133, .undef), (134, .undef), (141, .undef), (144, .undef), (145, .undef), (148, .undef), (149, .undef), (150, .undef), (151, .undef), (154, .undef), (155, .undef), (156, .undef), (157, .undef), (160, .undef), (161, .undef), (162, .undef), (163, .undef), (170, .undef), (171, .undef), (172, .undef), (175, .undef), (178, .undef), (179, .undef), (182, .undef), (183, .undef), (184, .undef), (185, .undef), (188, .undef), (189, .undef), (190, .undef), (191, .undef), (198, .undef), (199, .undef), (200, .undef), (203, .undef), (206, .undef), (207, .undef), (210, .undef), (211, .undef), (212, .undef), (213, .undef), (216, .undef), (217, .undef), (218, .undef), (219, .undef), (226, .undef), (229, .undef), (230, .undef), (233, .undef), (234, .undef), (235, .undef), (236, .undef)] [.box [.int .u8 k, .str r, .str m, .int .i64 d, .sl s.length 5 (Ex.exG s)]])) (by kernel_rfl) ?_
 simp only [Tree.holds, zd]
 refine zb.bear 4 1 (intG []) rfl (by decide) (by kernel_rfl) ?_
 refine zb.loop (ι := {i : Nat // i ≤ s.length}) (fun i => SRs (xb r m d) i.1) (fun i => HRs k r m d s (Ex.q7 (s.take i.1)) i.1) (fun i => s.length - i.1) ⟨0, Nat.zero_le _⟩ 0 ?_ ?_ (by kernel_rfl)
 ·exact ⟨by simp [SRs, kz, xb], by simp [HRs, Ex.exS, Ex.q7, za], by kernel_rfl, Nat.zero_le _⟩
 ·rintro ⟨i, hil⟩
  obtain ⟨b, hb⟩ : ∃ b, xb r m d = b := ⟨_, rfl⟩
  obtain ⟨l, hl⟩ : ∃ l, Ex.q7 (s.take i) = l := ⟨_, rfl⟩
  have hll : l.length = i := by rw [← hl, Ex.qU, List.length_take]; omega
  simp only [hb, hl]
  refine zb.run hmix (zay ih) [1, 3, 4, 5, 43, 44, 47, 48, 49, 52, 53, 54, 57, 58, 59, 60, 67, 68, 71, 72, 73, 76, 77, 78, 81, 82, 83, 90, 91, 94, 95, 96, 99, 100, 101, 104, 105, 106, 113, 114, 115, 118, 121, 122, 125, 126, 127, 128, 131, 132, 133, 134, 141, 144, 145, 148, 149, 150, 151, 154, 155, 156, 157, 160, 161, 162, 163, 170, 171, 172, 175, 178, 179, 182, 183, 184, 185, 188, 189, 190, 191, 198, 199, 200, 203, 206, 207, 210, 211, 212, 213, 216, 217, 218, 219, 226, 229, 230, 233, 234, 235, 236] 400 (T := .ite (decide ((↑i : Int) < s.length)) (.side ((0 : Int) ≤ i ∧ (↑i : Int) < s.length) (.ex (fun (x : Ex) => eqL [AV.agg [AV.int .u8 (Ex.kind (List.getD s (Int.toNat (↑i : Int)) Ex.nil)), AV.str (Ex.rat (List.getD s (Int.toNat (↑i : Int)) Ex.nil)), AV.str (Ex.name (List.getD s (Int.toNat (↑i : Int)) Ex.nil)), AV.int .i64 (Ex.date (List.getD s (Int.toNat (↑i : Int)) Ex.nil)), AV.sl (List.length (Ex.sub (List.getD s (Int.toNat (↑i : Int)) Ex.nil))) 5 (Ex.deep (List.getD s (Int.toNat (↑i : Int)) Ex.nil))]] [AV.agg [AV.int .u8 x.kind, AV.str x.rat, AV.str x.name, AV.int .i64 x.date, AV.sl x.sub.length 5 (Ex.exG x.sub)]] ∧ Ex.size x < n ∧ Ex.size x < 1099511627776 ∧ Ex.zx x < 1099511627776) fun n => .all (fun (r : Int) => r = Ex.z9 n) fun n => .side (0 = 0 ∧ i ≤ i ∧ (i + 1) * 8 ≤ 140737488355328) (.side (inR .i64 ((↑i : Int) + (1 : Int))) (.leaf (.back 0 [(1, .ptr 0 0), (3, .bool b), (4, .osl 1 1 0 (i + 1)), (5, .int .i64 ((↑i : Int) + (1 : Int))), (43, .undef), (44, .undef), (47, .undef), (48, .undef), (49, .undef), (52, .undef), (53, .undef), (54, .undef), (57, .undef), (58, .undef), (59, .undef), (60, .undef), (67, .undef), (68, .undef), (71, .undef), (72, .undef), (73, .undef), (76, .undef), (77, .undef), (78, .undef), (81, .undef), (82, .undef), (83, .undef), (90, .undef), (91, .undef), (94, .undef), (95, .undef), (96, .undef), (99, .undef), (100, .undef), (101, .undef), (104, .undef), (105, .undef), (106, .undef), (113, .undef), (114, .undef), (115, .undef), (118, .undef), (121, .undef), (122, .undef), (125, .undef), (126, .undef), (127, .undef), (128, .undef), (131, .undef), (132, .undef), (133, .undef), (134, .undef), (141, .undef), (144, .undef), (145, .undef), (148, .undef), (149, .undef), (150, .undef), (151, .undef), (154, .undef), (155, .undef), (156, .undef), (157, .undef), (160, .undef), (161, .undef), (162, .undef), (163, .undef), (170, .undef), (171, .undef), (172, .undef), (175, .undef), (178, .undef), (179, .undef), (182, .undef), (183, .undef), (184, .undef), (185, .undef), (188, .undef), (189, .undef), (190, .undef), (191, .undef), (198, .undef), (199, .undef), (200, .undef), (203, .undef), (206, .undef), (207, .undef), (210, .undef), (211, .undef), (212, .undef), (213, .undef), (216, .undef), (217, .undef), (218, .undef), (219, .undef), (226, .undef), (229, .undef), (230, .undef), (233, .undef), (234, .undef), (235, .undef), (236, .undef)] [.box [.int .u8 k, .str r, .str m, .int .i64 d, .sl s.length 5 (Ex.exG s)], .arr (i + 1) 1 (appG i (intG l) (zj (zk 1 [.int .i64 n]) 0)), .arr 1 1 (zk 1 [.int .i64 n])]))))) (.ex (fun (x : List UInt8) => (bif bif bif decide (k = 1) then decide ((↑i : Int) = 0) else false then decide (m = Array.toList #[]) else false then decide (d = 0) else false) = true → eqL [AV.str r] [AV.str x] ∧ x.length < 1099511627776) fun n => .all (fun (x : Int) => (bif bif bif decide (k = 1) then decide ((↑i : Int) = 0) else false then decide (m = Array.toList #[]) else false then decide (d = 0) else false) = true → x = errR n) fun n => .ite (bif bif bif bif decide (k = 1) then decide ((↑i : Int) = 0) else false then decide (m = Array.toList #[]) else false then decide (d = 0) else false then decide (n = 0) else false) (.leaf (.ret [.int .i64 1] [.box [.int .u8 k, .str r, .str m, .int .i64 d, .sl s.length 5 (Ex.exG s)], .arr i 1 (intG l)])) (.ex (fun (x : List UInt8) => (bif bif decide (k = 2) then decide ((↑i : Int) = 0) else false then decide (r = Array.toList #[]) else false) = true → eqL [AV.str m] [AV.str x] ∧ x.length < 4611686018427387904) fun n => .all (fun (x : Bool) => (bif bif decide (k = 2) then decide ((↑i : Int) = 0) else false then decide (r = Array.toList #[]) else false) = true → x = qe n) fun n => .ex (fun (x : Int) => (bif bif bif decide (k = 2) then decide ((↑i : Int) = 0) else false then decide (r = Array.toList #[]) else false then n else false) = true → eqL [AV.int .i64 d] [AV.int .i64 x] ∧ True) fun n_1 => .all (fun (x : Bool) => (bif bif bif decide (k = 2) then decide ((↑i : Int) = 0) else false then decide (r = Array.toList #[]) else false then n else false) = true → x = dayB n_1) fun n_2 => .ite (bif bif bif bif decide (k = 2) then decide ((↑i : Int) = 0) else false then decide (r = Array.toList #[]) else false then n else false then n_2 else false) (.leaf (.ret [.int .i64 1] [.box [.int .u8 k, .str r, .str m, .int .i64 d, .sl s.length 5 (Ex.exG s)], .arr i 1 (intG l)])) (.ex (fun (x : List UInt8) => (bif bif decide (k = 3) then decide ((↑i : Int) = 0) else false then decide (r = Array.toList #[]) else false) = true → eqL [AV.str m] [AV.str x] ∧ x.length < 4611686018427387904) fun n => .all (fun (x : Bool) => (bif bif decide (k = 3) then decide ((↑i : Int) = 0) else false then decide (r = Array.toList #[]) else false) = true → x = qe n) fun n => .ite (bif bif bif bif decide (k = 3) then decide ((↑i : Int) = 0) else false then decide (r = Array.toList #[]) else false then n else false then decide (d = 0) else false) (.leaf (.ret [.int .i64 1] [.box [.int .u8 k, .str r, .str m, .int .i64 d, .sl s.length 5 (Ex.exG s)], .arr i 1 (intG l)])) (.side ((bif bif bif decide ((4 : Int) ≤ k) then decide (k ≤ 8) else false then b else false then decide ((↑i : Int) = 2) else false) = true → (0 : Int) ≤ 0 ∧ (0 : Int) < i) (.side ((bif bif bif bif decide ((4 : Int) ≤ k) then decide (k ≤ 8) else false then b else false then decide ((↑i : Int) = 2) else false then decide (List.getD l 0 (0 : Int) = 1) else false) = true → (0 : Int) ≤ 1 ∧ (1 : Int) < i) (.ite (bif bif bif bif bif decide ((4 : Int) ≤ k) then decide (k ≤ 8) else false then b else false then decide ((↑i : Int) = 2) else false then decide (List.getD l 0 (0 : Int) = 1) else false then decide (List.getD l 1 (0 : Int) = 1) else false) (.leaf (.ret [.int .i64 1] [.box [.int .u8 k, .str r, .str m, .int .i64 d, .sl s.length 5 (Ex.exG s)], .arr i 1 (intG l)])) (.side ((bif bif decide (k = 9) then b else false then decide ((↑i : Int) = 3) else false) = true → (0 : Int) ≤ 0 ∧ (0 : Int) < i) (.side ((bif bif bif decide (k = 9) then b else false then decide ((↑i : Int) = 3) else false then decide (List.getD l 0 (0 : Int) = 2) else false) = true → (0 : Int) ≤ 1 ∧ (1 : Int) < i) (.side ((bif bif bif bif decide (k = 9) then b else false then decide ((↑i : Int) = 3) else false then decide (List.getD l 0 (0 : Int) = 2) else false then decide (List.getD l 1 (0 : Int) = 1) else false) = true → (0 : Int) ≤ 2 ∧ (2 : Int) < i) (.ite (bif bif bif bif bif decide (k = 9) then b else false then decide ((↑i : Int) = 3) else false then decide (List.getD l 0 (0 : Int) = 2) else false then decide (List.getD l 1 (0 : Int) = 1) else false then decide (List.getD l 2 (0 : Int) = 1) else false) (.leaf (.ret [.int .i64 1] [.box [.int .u8 k, .str r, .str m, .int .i64 d, .sl s.length 5 (Ex.exG s)], .arr i 1 (intG l)])) (.side ((bif bif bif decide (k = 11) then true else decide (k = 12) then b else false then decide ((↑i : Int) = 2) else false) = true → (0 : Int) ≤ 0 ∧ (0 : Int) < i) (.side ((bif bif bif bif decide (k = 11) then true else decide (k = 12) then b else false then decide ((↑i : Int) = 2) else false then decide (List.getD l 0 (0 : Int) = 1) else false) = true → (0 : Int) ≤ 1 ∧ (1 : Int) < i) (.ite (bif bif bif bif bif decide (k = 11) then true else decide (k = 12) then b else false then decide ((↑i : Int) = 2) else false then decide (List.getD l 0 (0 : Int) = 1) else false then decide (List.getD l 1 (0 : Int) = 1) else false) (.leaf (.ret [.int .i64 2] [.box [.int .u8 k, .str r, .str m, .int .i64 d, .sl s.length 5 (Ex.exG s)], .arr i 1 (intG l)])) (.side ((bif bif bif decide (k = 13) then true else decide (k = 14) then b else false then decide ((↑i : Int) = 2) else false) = true → (0 : Int) ≤ 0 ∧ (0 : Int) < i) (.side ((bif bif bif bif decide (k = 13) then true else decide (k = 14) then b else false then decide ((↑i : Int) = 2) else false then decide (List.getD l 0 (0 : Int) = 2) else false) = true → (0 : Int) ≤ 1 ∧ (1 : Int) < i) (.ite (bif bif bif bif bif decide (k = 13) then true else decide (k = 14) then b else false then decide ((↑i : Int) = 2) else false then decide (List.getD l 0 (0 : Int) = 2) else false then decide (List.getD l 1 (0 : Int) = 2) else false) (.leaf (.ret [.int .i64 2] [.box [.int .u8 k, .str r, .str m, .int .i64 d, .sl s.length 5 (Ex.exG s)], .arr i 1 (intG l)])) (.side ((bif bif decide (k = 15) then b else false then decide ((↑i : Int) = 1) else false) = true → (0 : Int) ≤ 0 ∧ (0 : Int) < i) (.ite (bif bif bif decide (k = 15) then b else false then decide ((↑i : Int) = 1) else false then decide (List.getD l 0 (0 : Int) = 2) else false) (.leaf (.ret [.int .i64 2] [.box [.int .u8 k, .str r, .str m, .int .i64 d, .sl s.length 5 (Ex.exG s)], .arr i 1 (intG l)])) (.leaf (.ret [.int .i64 0] [.box [.int .u8 k, .str r, .str m, .int .i64 d, .sl s.length 5 (Ex.exG s)], .arr i 1 (intG l)]))))))))))))))))))))) (by kernel_rfl) ?_
  simp only [Tree.holds, zd, inR, lo, hi, Int.toNat_natCast]
  refine ⟨fun hlt => ?_, fun hge => ?_⟩
  ·have hlt : i < s.length := by have := of_decide_eq_true hlt; omega
   have hg := Ex.z6 hlt
   have hg2 := Ex.xz hlt
   have ht := Ex.Vi s i hlt
   refine ⟨by omega, fun _ => ⟨s.getD i Ex.nil, ⟨wh rfl rfl rfl rfl rfl (Ex.jf _), by omega, by omega, by omega⟩, ⟨_, rfl⟩, ?_⟩⟩
   intro e he
   refine ⟨⟨trivial, Nat.le_refl _, by omega⟩, fun _ => ⟨by omega, fun _ => ?_⟩⟩
   rw [if_pos trivial]
   refine ⟨⟨i + 1, hlt⟩, by show s.length - (i + 1) < s.length - i; omega, by simp [SRs], ?_, by kernel_rfl, Nat.zero_le _⟩
   have hp := Yr (v := e) hll
   rw [ht, hl, ← he]
   exact ⟨⟨⟨rfl, rfl⟩, rfl, rfl, ⟨rfl, rfl⟩, ⟨rfl, rfl, za _ _ _⟩, trivial⟩, ⟨rfl, rfl, hp⟩, trivial⟩
  ·have hge : i = s.length := by have := of_decide_eq_false hge; omega
   subst hge
   rw [List.take_length] at hl
   clear hge hil hxn ih
   have fin : ∀ z : Int, z = jm k r m d l → RetR (Z1 (n + 1)) 0 Q [.int .i64 z] (HRs k r m d s l s.length) := by
    intro z hz
    rw [hl, ← hz] at hq
    exact RetR.scal hq rfl (by simp [resV])
   have hls : ((s.length : Nat) : Int) = l.length := by rw [hll]
   have hn0 : s.length = 0 ↔ s = [] := List.length_eq_zero_iff
   have q1 : ∀ a : Int, l = [a] ↔ ((s.length : Nat) : Int) = 1 ∧ l[0]?.getD 0 = a := fun a => by rw [hls]; exact zgi
   have q2 : ∀ a c : Int, l = [a, c] ↔ ((s.length : Nat) : Int) = 2 ∧ l[0]?.getD 0 = a ∧ l[1]?.getD 0 = c := fun a c => by rw [hls]; exact zgl
   have q3 : ∀ a c e : Int, l = [a, c, e] ↔ ((s.length : Nat) : Int) = 3 ∧ l[0]?.getD 0 = a ∧ l[1]?.getD 0 = c ∧ l[2]?.getD 0 = e := fun a c e => by rw [hls]; exact zgh
   by_cases k1 : k = 1
   ·subst k1
    have hs := jD (k := 1) (r := r) (m := m) (d := d) (l := l) (by decide)
    rw [hll] at hs
    simp
    refine ⟨r, fun _ _ _ => ⟨rfl, by omega⟩, ⟨_, fun _ _ _ => rfl⟩, ?_⟩
    intro e he
    refine ⟨fun g1 g2 g3 g4 => fin 1 ?_, fun h => fin 0 ?_⟩
    ·rw [hs, if_pos]
     have := he g1 g2 g3
     simp [zZ, g1, g2, g3, ← this, g4]
    ·rw [hs, if_neg]
     intro hL
     simp [zZ] at hL
     obtain ⟨g1, ⟨g4, g2⟩, g3⟩ := hL
     exact h g1 g2 g3 ((he g1 g2 g3).trans g4)
   by_cases k2 : k = 2
   ·subst k2
    have hs := jD (k := 2) (r := r) (m := m) (d := d) (l := l) (by decide)
    rw [hll] at hs
    simp
    refine ⟨m, fun _ _ => ⟨rfl, by omega⟩, ?_, fun hn => fin 0 ?_, fun hn => ⟨d, fun _ _ => rfl, ?_, fun hd => fin 0 ?_, fun hd => ⟨fun g1 g2 => fin 1 ?_, fun h => fin 0 ?_⟩⟩⟩
    ·cases qe m
     ·exact .inl fun _ _ => rfl
     ·exact .inr fun _ _ => rfl
    ·rw [hs, if_neg]
     intro hL
     simp [zZ] at hL
     rw [hn hL.1 hL.2.1.1] at hL
     exact absurd hL.2.1.2 (by decide)
    ·cases dayB d
     ·exact .inl fun _ _ => rfl
     ·exact .inr fun _ _ => rfl
    ·rw [hs, if_neg]
     intro hL
     simp [zZ] at hL
     rw [hd hL.1 hL.2.1.1] at hL
     exact absurd hL.2.2 (by decide)
    ·rw [hs, if_pos]
     simp [zZ, g1, g2, hn g1 g2, hd g1 g2]
    ·rw [hs, if_neg]
     intro hL
     simp [zZ] at hL
     exact h hL.1 hL.2.1.1
   by_cases k3 : k = 3
   ·subst k3
    have hs := jD (k := 3) (r := r) (m := m) (d := d) (l := l) (by decide)
    rw [hll] at hs
    simp
    refine ⟨m, fun _ _ => ⟨rfl, by omega⟩, ?_, fun hn => fin 0 ?_, fun hn => ⟨fun g1 g2 g3 => fin 1 ?_, fun h => fin 0 ?_⟩⟩
    ·cases qe m
     ·exact .inl fun _ _ => rfl
     ·exact .inr fun _ _ => rfl
    ·rw [hs, if_neg]
     intro hL
     simp [zZ] at hL
     rw [hn hL.1 hL.2.1.1] at hL
     exact absurd hL.2.1.2 (by decide)
    ·rw [hs, if_pos]
     simp [zZ, g1, g2, g3, hn g1 g2]
    ·rw [hs, if_neg]
     intro hL
     simp [zZ] at hL
     exact h hL.1 hL.2.1.1 hL.2.2
   by_cases k4 : 4 ≤ k ∧ k ≤ 8
   ·have hs : jm k r m d l = if xb r m d = true ∧ l = [1, 1] then 1 else 0 := jB (by
     have : k = 4 ∨ k = 5 ∨ k = 6 ∨ k = 7 ∨ k = 8 := by omega
     rcases this with rfl | rfl | rfl | rfl | rfl <;> rfl)
    simp [k1, k2, k3, k4, show ¬ k = 9 by omega, show ¬ k = 11 by omega, show ¬ k = 12 by omega, show ¬ k = 13 by omega, show ¬ k = 14 by omega, show ¬ k = 15 by omega]
    refine ⟨fun _ h => by omega, fun _ => ⟨fun _ h _ => by omega, fun _ => ⟨fun h1 h2 h3 h4 => fin 1 ?_, fun h => fin 0 ?_⟩⟩⟩
    ·rw [hs, if_pos ⟨hb.trans h1, (q2 _ _).2 ⟨h2, h3, h4⟩⟩]
    ·rw [hs, if_neg fun g => h (hb.symm.trans g.1) ((q2 _ _).1 g.2).1 ((q2 _ _).1 g.2).2.1 ((q2 _ _).1 g.2).2.2]
   by_cases k9 : k = 9
   ·subst k9
    have hs : jm 9 r m d l = if xb r m d = true ∧ l = [2, 1, 1] then 1 else 0 := jB rfl
    simp
    refine ⟨fun _ h => by omega, fun _ => ⟨fun _ h _ => by omega, fun _ => ⟨fun _ h _ _ => by omega, fun _ => ⟨fun h1 h2 h3 h4 h5 => fin 1 ?_, fun h => fin 0 ?_⟩⟩⟩⟩
    ·rw [hs, if_pos ⟨hb.trans h1, (q3 _ _ _).2 ⟨h2, h3, h4, h5⟩⟩]
    ·rw [hs, if_neg fun g => h (hb.symm.trans g.1) ((q3 _ _ _).1 g.2).1 ((q3 _ _ _).1 g.2).2.1 ((q3 _ _ _).1 g.2).2.2.1 ((q3 _ _ _).1 g.2).2.2.2]
   by_cases k11 : k = 11 ∨ k = 12
   ·have hs : jm k r m d l = if xb r m d = true ∧ l = [1, 1] then 2 else 0 := jB (by rcases k11 with rfl | rfl <;> rfl)
    simp [k1, k2, k3, k4, k9, k11, show ¬ k ≤ 8 by omega, show ¬ k = 13 by omega, show ¬ k = 14 by omega, show ¬ k = 15 by omega]
    refine ⟨fun _ h => by omega, fun _ => ⟨fun _ h _ => by omega, fun _ => ⟨fun h1 h2 h3 h4 => fin 2 ?_, fun h => fin 0 ?_⟩⟩⟩
    ·rw [hs, if_pos ⟨hb.trans h1, (q2 _ _).2 ⟨h2, h3, h4⟩⟩]
    ·rw [hs, if_neg fun g => h (hb.symm.trans g.1) ((q2 _ _).1 g.2).1 ((q2 _ _).1 g.2).2.1 ((q2 _ _).1 g.2).2.2]
   by_cases k13 : k = 13 ∨ k = 14
   ·have hs : jm k r m d l = if xb r m d = true ∧ l = [2, 2] then 2 else 0 := jB (by rcases k13 with rfl | rfl <;> rfl)
    simp [k1, k2, k3, k4, k9, k11, k13, show ¬ k ≤ 8 by omega, show ¬ k = 15 by omega]
    refine ⟨fun _ h => by omega, fun _ => ⟨fun _ h _ => by omega, fun _ => ⟨fun h1 h2 h3 h4 => fin 2 ?_, fun h => fin 0 ?_⟩⟩⟩
    ·rw [hs, if_pos ⟨hb.trans h1, (q2 _ _).2 ⟨h2, h3, h4⟩⟩]
    ·rw [hs, if_neg fun g => h (hb.symm.trans g.1) ((q2 _ _).1 g.2).1 ((q2 _ _).1 g.2).2.1 ((q2 _ _).1 g.2).2.2]
   by_cases k15 : k = 15
   ·subst k15
    have hs : jm 15 r m d l = if xb r m d = true ∧ l = [2] then 2 else 0 := jB rfl
    simp
    refine ⟨fun _ h => by omega, fun _ => ⟨fun h1 h2 h3 => fin 2 ?_, fun h => fin 0 ?_⟩⟩
    ·rw [hs, if_pos ⟨hb.trans h1, (q1 _).2 ⟨h2, h3⟩⟩]
    ·rw [hs, if_neg fun g => h (hb.symm.trans g.1) ((q1 _).1 g.2).1 ((q1 _).1 g.2).2]
   ·have hs := jD (k := k) (r := r) (m := m) (d := d) (l := l) (Vx (by omega) (by omega))
    have hlf : zZ k r m d l.length = false := by simp [zZ, k1, k2, k3]
    rw [hlf] at hs
    simp [k1, k2, k3, k4, k9, k11, k13, k15]
    exact fin 0 (by rw [hs]; rfl)
def uE : Ctr := ctrP true (fun x : Ex => [x.exA]) (fun x => x.size < 2 ^ 40 ∧ x.zx < 2 ^ 40) (fun x r => r = x.z9) (fun _ (r : Int) => (.int .i64 r, []))
theorem JJ : zc Tryz.prog 45 uE := jV Ex.size Va
end Go.Proofs.Tryz
end

/- Expressions: the checks. -/
section
set_option maxRecDepth 100000
open Go Go.Sx Go.Proofs Go.Nov
namespace Go.Proofs.Tryz
attribute [local simp] eqKV eqA eqA0 eqH eqB eqL eqL0
noncomputable def K31 : List Go.Sx.Item := [.code (Tryz.f31.body.getD .skip)]
noncomputable def K44 : List Go.Sx.Item := [.code (Tryz.f44.body.getD .skip)]
def JB : Ctr := ctrP true (fun x : Ex => [x.exA]) (fun x => x.size < 2 ^ 62) (fun x r => r = x.size) (fun _ (r : Nat) => (.int .i64 (r : Int), []))
def U6 : Ctr := ctrP true (fun p : Ex × Nat => [p.1.exA, .int .i64 (p.2 : Int)]) (fun p => p.1.size < 2 ^ 62 ∧ p.2 < 2 ^ 40) (fun p r => r = min p.1.depth (p.2 + 1)) (fun _ (r : Nat) => (.int .i64 (r : Int), []))
def XO : Ctr := ctrP true (fun x : Ex => [x.exA]) (fun x => x.size < 2 ^ 62) (fun x r => r = x.depth) (fun _ (r : Nat) => (.int .i64 (r : Int), []))
def ur : Ctr := ctrP true (fun x : Ex => [x.exA]) (fun x => x.size < 2 ^ 40 ∧ x.zx < 2 ^ 40) (fun x r => r = x.errX) (fun _ (r : Int) => (.int .i64 r, []))
theorem eqX (x : Ex) : eqL [.agg [.int .u8 x.kind, .str x.rat, .str x.name, .int .i64 x.date, .sl x.sub.length 5 (Ex.exG x.sub)]] [x.exA] := wh rfl rfl rfl rfl rfl (za _ _ _)
theorem Q3 {x : Ex} {n : Nat} (hn : decide (500 < (x.size : Int)) = false → (60 < n ↔ 60 < x.depth)) :
  ((bif decide (500 < (x.size : Int)) then true else decide (60 < (n : Int))) = true → x.errX = 4) ∧ ((bif decide (500 < (x.size : Int)) then true else decide (60 < (n : Int))) = false → x.errX = if x.z9 = 0 then 8 else 0) := by
 by_cases h : 500 < x.size
 ·have e : decide (500 < (x.size : Int)) = true := decide_eq_true (by omega)
  rw [e]
  exact ⟨fun _ => if_pos (.inl h), fun h => by cases h⟩
 ·have e : decide (500 < (x.size : Int)) = false := decide_eq_false (by omega)
  have h2 := hn e
  rw [e]
  simp only [cond_false]
  by_cases h3 : 60 < n
  ·exact ⟨fun _ => if_pos (.inr (h2.1 h3)), fun h => by have := of_decide_eq_false h; omega⟩
  ·refine ⟨fun h => by have := of_decide_eq_true h; omega, fun _ => ?_⟩
   unfold Ex.errX
   rw [if_neg]
   rintro (h4 | h4)
   ·exact h h4
   ·exact h3 (h2.2 h4)
def GCk : Nat → Option Ctr := fun f => if f = 59 then some (JB) else if f = 60 then some (U6) else if f = 32 then some (QV) else none
theorem zer : ∀ g c, GCk g = some c → zc Tryz.prog g c := okIf zc3 (okIf zbp (okIf Xa (okNone)))
theorem Yn : zc Tryz.prog 31 ur := by
 refine ze (fn := Tryz.f31) (c := Tryz.f31.body.getD .skip) rfl rfl rfl fun x hx O w0 Q hq => ?_
 replace hq := hq _ rfl
 obtain ⟨h1, h2⟩ := hx
 refine zb.run hmix zer [] 400 (T := .ex (fun (x_1 : Ex) => eqL [AV.agg [AV.int .u8 x.kind, AV.str x.rat, AV.str x.name, AV.int .i64 x.date, AV.sl x.sub.length 5 (Ex.exG x.sub)]] [AV.agg [AV.int .u8 x_1.kind, AV.str x_1.rat, AV.str x_1.name, AV.int .i64 x_1.date, AV.sl x_1.sub.length 5 (Ex.exG x_1.sub)]] ∧ Ex.size x_1 < 4611686018427387904) fun n => .all (fun (r : Nat) => r = Ex.size n) fun n => .ex (fun (x_1 : Ex × Nat) => decide ((500 : Int) < n) = false → eqL [AV.agg [AV.int .u8 x.kind, AV.str x.rat, AV.str x.name, AV.int .i64 x.date, AV.sl x.sub.length 5 (Ex.exG x.sub)], AV.int .i64 60] [AV.agg [AV.int .u8 x_1.1.kind, AV.str x_1.1.rat, AV.str x_1.1.name, AV.int .i64 x_1.1.date, AV.sl x_1.1.sub.length 5 (Ex.exG x_1.1.sub)], AV.int .i64 x_1.2] ∧ Ex.size x_1.1 < 4611686018427387904 ∧ x_1.2 < 1099511627776) fun n_1 => .all (fun (x : Nat) => decide ((500 : Int) < n) = false → x = min n_1.1.depth (n_1.2 + 1)) fun n_2 => .ite (bif decide ((500 : Int) < n) then true else decide ((60 : Int) < n_2)) (.leaf (.ret [.int .i64 4] [.box [.int .u8 x.kind, .str x.rat, .str x.name, .int .i64 x.date, .sl x.sub.length 5 (Ex.exG x.sub)]])) (.ex (fun (x_1 : Ex) => eqL [AV.agg [AV.int .u8 x.kind, AV.str x.rat, AV.str x.name, AV.int .i64 x.date, AV.sl x.sub.length 5 (Ex.exG x.sub)]] [AV.agg [AV.int .u8 x_1.kind, AV.str x_1.rat, AV.str x_1.name, AV.int .i64 x_1.date, AV.sl x_1.sub.length 5 (Ex.exG x_1.sub)]] ∧ Ex.size x_1 < 1152921504606846976 ∧ Ex.zx x_1 < 1099511627776) fun n => .all (fun (r : Int) => r = Ex.z9 n) fun n => .ite (decide (n = 0)) (.leaf (.ret [.int .i64 8] [.box [.int .u8 x.kind, .str x.rat, .str x.name, .int .i64 x.date, .sl x.sub.length 5 (Ex.exG x.sub)]])) (.leaf (.ret [.int .i64 0] [.box [.int .u8 x.kind, .str x.rat, .str x.name, .int .i64 x.date, .sl x.sub.length 5 (Ex.exG x.sub)]])))) (by kernel_rfl) ?_
 simp only [Tree.holds, zd, inR, lo, hi, Int.toNat_natCast]
 refine ⟨x, ⟨wh rfl rfl rfl rfl rfl (za _ _ _), by omega⟩, ⟨_, rfl⟩, ?_⟩
 rintro _ rfl
 refine ⟨(x, 60), fun _ => ⟨⟨⟨⟨rfl, rfl⟩, rfl, rfl, ⟨rfl, rfl⟩, ⟨rfl, rfl, za _ _ _⟩, trivial⟩, ⟨rfl, rfl⟩, trivial⟩, by show x.size < _; omega, by show 60 < 1099511627776; omega⟩, ⟨_, fun _ => rfl⟩, ?_⟩
 intro c hc
 have em := Q3 (x := x) (n := c) fun h => by have := hc h; simp only at this; omega
 refine ⟨fun h => ?_, fun h => ⟨x, ⟨eqX x, by omega, by omega⟩, ⟨_, rfl⟩, ?_⟩⟩
 ·rw [em.1 h] at hq
  exact RetR.scal hq rfl (by simp [resV])
 ·have e := em.2 h
  rintro _ rfl
  refine ⟨fun g => ?_, fun g => ?_⟩
  ·rw [e, if_pos (of_decide_eq_true g)] at hq
   exact RetR.scal hq rfl (by simp [resV])
  ·rw [e, if_neg (of_decide_eq_false g)] at hq
   exact RetR.scal hq rfl (by simp [resV])
def GCr : Nat → Option Ctr := fun f => if f = 12 then some (JB) else if f = 13 then some (XO) else if f = 45 then some (uE) else none
theorem zfd : ∀ g c, GCr g = some c → zc Tryz.prog g c := okIf YY (okIf Yi (okIf JJ (okNone)))
theorem VS : zc Tryz.prog 44 ur := by
 refine ze (fn := Tryz.f44) (c := Tryz.f44.body.getD .skip) rfl rfl rfl fun x hx O w0 Q hq => ?_
 replace hq := hq _ rfl
 obtain ⟨h1, h2⟩ := hx
 refine zb.run hmix zfd [] 400 (T := .ex (fun (x_1 : Ex) => eqL [AV.agg [AV.int .u8 x.kind, AV.str x.rat, AV.str x.name, AV.int .i64 x.date, AV.sl x.sub.length 5 (Ex.exG x.sub)]] [AV.agg [AV.int .u8 x_1.kind, AV.str x_1.rat, AV.str x_1.name, AV.int .i64 x_1.date, AV.sl x_1.sub.length 5 (Ex.exG x_1.sub)]] ∧ Ex.size x_1 < 4611686018427387904) fun n => .all (fun (r : Nat) => r = Ex.size n) fun n => .ex (fun (x_1 : Ex) => decide ((500 : Int) < n) = false → eqL [AV.agg [AV.int .u8 x.kind, AV.str x.rat, AV.str x.name, AV.int .i64 x.date, AV.sl x.sub.length 5 (Ex.exG x.sub)]] [AV.agg [AV.int .u8 x_1.kind, AV.str x_1.rat, AV.str x_1.name, AV.int .i64 x_1.date, AV.sl x_1.sub.length 5 (Ex.exG x_1.sub)]] ∧ Ex.size x_1 < 4611686018427387904) fun n_1 => .all (fun (x : Nat) => decide ((500 : Int) < n) = false → x = Ex.depth n_1) fun n_2 => .ite (bif decide ((500 : Int) < n) then true else decide ((60 : Int) < n_2)) (.leaf (.ret [.int .i64 4] [.box [.int .u8 x.kind, .str x.rat, .str x.name, .int .i64 x.date, .sl x.sub.length 5 (Ex.exG x.sub)]])) (.ex (fun (x_1 : Ex) => eqL [AV.agg [AV.int .u8 x.kind, AV.str x.rat, AV.str x.name, AV.int .i64 x.date, AV.sl x.sub.length 5 (Ex.exG x.sub)]] [AV.agg [AV.int .u8 x_1.kind, AV.str x_1.rat, AV.str x_1.name, AV.int .i64 x_1.date, AV.sl x_1.sub.length 5 (Ex.exG x_1.sub)]] ∧ Ex.size x_1 < 1099511627776 ∧ Ex.zx x_1 < 1099511627776) fun n => .all (fun (r : Int) => r = Ex.z9 n) fun n => .ite (decide (n = 0)) (.leaf (.ret [.int .i64 8] [.box [.int .u8 x.kind, .str x.rat, .str x.name, .int .i64 x.date, .sl x.sub.length 5 (Ex.exG x.sub)]])) (.leaf (.ret [.int .i64 0] [.box [.int .u8 x.kind, .str x.rat, .str x.name, .int .i64 x.date, .sl x.sub.length 5 (Ex.exG x.sub)]])))) (by kernel_rfl) ?_
 simp only [Tree.holds, zd, inR, lo, hi, Int.toNat_natCast]
 refine ⟨x, ⟨wh rfl rfl rfl rfl rfl (za _ _ _), by omega⟩, ⟨_, rfl⟩, ?_⟩
 rintro _ rfl
 refine ⟨x, fun _ => ⟨eqX x, by omega⟩, ⟨_, fun _ => rfl⟩, ?_⟩
 intro c hc
 have em := Q3 (x := x) (n := c) fun h => by have := hc h; omega
 refine ⟨fun h => ?_, fun h => ⟨x, ⟨eqX x, by omega, by omega⟩, ⟨_, rfl⟩, ?_⟩⟩
 ·rw [em.1 h] at hq
  exact RetR.scal hq rfl (by simp [resV])
 ·have e := em.2 h
  rintro _ rfl
  refine ⟨fun g => ?_, fun g => ?_⟩
  ·rw [e, if_pos (of_decide_eq_true g)] at hq
   exact RetR.scal hq rfl (by simp [resV])
  ·rw [e, if_neg (of_decide_eq_false g)] at hq
   exact RetR.scal hq rfl (by simp [resV])
end Go.Proofs.Tryz
end

/- Rationals: what they mean. -/
section
namespace Go.Nov
theorem zfb {b : List UInt8} (h : allD b) (hn : b ≠ []) (hz : b.getD 0 0 ≠ 48) : numD b ≠ 0 ∧ txt (numD b) = b := by
 have hd := zbh h
 have hl : 0 < b.length := List.length_pos_iff.2 hn
 have htl : Ten.tlen (dg b) = (dg b).length := by
  rcases Nat.lt_or_ge (Ten.tlen (dg b)) (dg b).length with h1 | h1
  ·exfalso
   have h2 := Ten.qH (dg b) ((dg b).length - 1) (by omega)
   rw [vE] at h2
   have e : (dg b).getD (b.length - 1) 0 = (b.getD 0 0).toNat - 48 := by
    simp only [dg, List.getD_eq_getElem?_getD]
    rw [List.getElem?_reverse (by simp; omega)]
    simp [List.getElem?_eq_getElem hl, show b.length - 1 - (b.length - 1) = 0 by omega]
   rw [e] at h2
   have h3 : 48 ≤ (b.getD 0 0).toNat := by
    cases b with
    | nil => exact absurd rfl hn
    | cons c r => exact (h c (by simp)).1
   apply hz
   apply UInt8.toNat_inj.1
   show _ = 48
   omega
  ·exact Nat.le_antisymm (Ten.zJ _) h1
 have hc : dec (numD b) = dg b := by
  rw [← QL]
  exact Ten.Q9 hd htl
 have h0 : numD b ≠ 0 := by
  intro h0
  rw [h0] at hc
  have : dg b = [] := by rw [← hc]; exact Ten.zC
  have := congrArg List.length this
  rw [vE, List.length_nil] at this
  omega
 refine ⟨h0, ?_⟩
 rw [xT h0, hc, dg, ← List.map_reverse, List.reverse_reverse, List.map_map]
 conv => rhs; rw [← List.map_id b]
 refine List.map_congr_left fun c hcm => ?_
 obtain ⟨h1, h2⟩ := h c hcm
 apply UInt8.toNat_inj.1
 simp only [Function.comp, id]
 rw [up (by omega)]
 omega
theorem Xc {s : List UInt8} (h : errI s = 0) : wr (negI s) (numI s) = (s, 0) := by
 obtain ⟨neg, b, h1, h2, h3, h4, h5, h6⟩ := un h
 have e1 : negI s = neg := by simp [negI, h2]
 have e2 : numI s = numD b := by simp [numI, h2]
 rw [e1, e2]
 by_cases hz : b.getD 0 0 = 48
 ·have hb : b = [48] := by
   cases b with
   | nil => exact absurd rfl h5
   | cons c r =>
    cases r with
    | nil => have : c = 48 := hz; rw [this]
    | cons d r => rw [w7 hz (by simp)] at h3; cases h3
  subst hb
  cases neg with
  | true => cases h3
  | false => rw [h1]; rfl
 ·obtain ⟨g1, g2⟩ := zfb h4 h5 hz
  unfold wr
  rw [if_neg g1, g2, if_neg, h1]
  have := kS g1
  rw [g2] at this
  omega
def zI (s : List UInt8) : Int := if negI s then -(numI s : Int) else numI s
theorem qI (s : List UInt8) : (zI s).natAbs = numI s := by unfold zI; split <;> simp
theorem kx {s : List UInt8} (h : errI s = 0) : negI s = decide (zI s < 0) := by
 unfold zI
 cases hn : negI s with
 | false => simp
 | true =>
  simp only [if_true]
  have : numI s ≠ 0 := by
   intro h0
   have := (wy h).2 h0
   rw [this] at hn
   cases hn
  exact (decide_eq_true (by omega)).symm
def wz (z : Int) : List UInt8 × Int := wr (decide (z < 0)) z.natAbs
theorem kX {s : List UInt8} (h : errI s = 0) : wz (zI s) = (s, 0) := by
 unfold wz
 rw [qI, ← kx h, Xc h]
theorem zgp {neg : Bool} {x : Nat} (h : (wr neg x).2 = 0) : zI (wr neg x).1 = if neg then -(x : Int) else x := by
 obtain ⟨h1, h2, h3⟩ := ua h
 unfold zI
 rw [h2, h3]
 by_cases h0 : x = 0
 ·subst h0; simp
 ·cases neg <;> simp [h0]
theorem ji {z : Int} (h : (wz z).2 = 0) : zI (wz z).1 = z := by
 unfold wz at h ⊢
 rw [zgp h]
 by_cases hz : z < 0
 ·rw [decide_eq_true hz]; simp only [if_true]; omega
 ·rw [decide_eq_false hz]; simp only [Bool.false_eq_true, if_false]; omega
theorem j0 {z : Int} (h : (wz z).2 = 0) : errI (wz z).1 = 0 := (ua h).1
theorem Qk {neg : Bool} {x : Nat} : wr neg x = wz (if neg then -(x : Int) else x) := by
 unfold wz
 by_cases h0 : x = 0
 ·subst h0
  cases neg <;> rfl
 ·cases neg with
  | false => simp only [Bool.false_eq_true, if_false, Int.natAbs_natCast]; rw [decide_eq_false (by omega)]
  | true => simp only [if_true, Int.natAbs_neg, Int.natAbs_natCast]; rw [decide_eq_true (by omega)]
theorem zbf (m : Bool) (x : Nat) (n : Bool) (y : Nat) : (if (sumS m x n y).1 then -((sumS m x n y).2 : Int) else (sumS m x n y).2) = (if m then -(x : Int) else x) + (if n then -(y : Int) else y) := by
 unfold sumS
 by_cases h : m = n
 ·subst h
  rw [if_pos rfl]
  cases m <;> simp <;> omega
 ·rw [if_neg h]
  by_cases h2 : y ≤ x
  ·rw [if_pos h2]
   cases m <;> cases n <;> first | exact absurd rfl h | (simp; omega)
  ·rw [if_neg h2]
   cases m <;> cases n <;> first | exact absurd rfl h | (simp; omega)
theorem UK {s t : List UInt8} (h : zl s t = 0) : addI s t = wz (zI s + zI t) := by
 unfold addI
 rw [if_pos h, Qk, zbf]; rfl
theorem UE {s t : List UInt8} (h : zl s t = 0) : subI s t = wz (zI s - zI t) := by
 unfold subI
 rw [if_pos h, Qk, zbf]
 congr 1
 unfold zI
 cases negI s <;> cases negI t <;> simp <;> omega
theorem ka {s t : List UInt8} (h : zl s t = 0) : mulI s t = wz (zI s * zI t) := by
 unfold mulI
 rw [if_pos h, Qk]
 congr 1
 unfold zI
 cases negI s <;> cases negI t <;> simp [Int.neg_mul, Int.mul_neg]
theorem zeu (m : Bool) (x : Nat) (n : Bool) (y : Nat) (hm : m = true → x ≠ 0) (hn : n = true → y ≠ 0) : cmpZ m x n y = cmpI (if m then -(x : Int) else x) (if n then -(y : Int) else y) := by
 unfold cmpZ cmpI cmpN
 cases m <;> cases n
 ·simp only [Bool.false_eq_true, false_and, if_false]
  repeat' split
  all_goals first | rfl | omega
 ·have := hn rfl
  simp only [Bool.false_eq_true, false_and, if_false, true_and, and_self, if_true]
  repeat' split
  all_goals first | rfl | omega
 ·have := hm rfl
  simp only [and_self, if_true, Bool.false_eq_true, if_false]
  repeat' split
  all_goals first | rfl | omega
 ·simp only [Bool.true_eq_false, and_false, if_false, if_true]
  repeat' split
  all_goals first | rfl | omega
end Go.Nov
end

/- Rationals: how a number is written; what the operations yield. -/
section
namespace Go.Nov
def qv (a : List UInt8) : Rat := Rat.divInt (zI (numR a)) (zI (denR a))
def qstr (r : Rat) : List UInt8 := if r.den = 1 then (wz r.num).1 else (wz r.num).1 ++ [47] ++ (wz r.den).1
def wT (r : Rat) : Prop := room r.num.natAbs ∧ room r.den
theorem Uy (neg : Bool) (x : Nat) : ∀ c ∈ (wr neg x).1, c ≠ 47 := by
 intro c hc h
 subst h
 unfold wr at hc
 split at hc
 ·simp at hc
 ·rename_i h0
  split at hc
  ·simp at hc
  ·have ht : ¬ (47 : UInt8) ∈ txt x := fun hm => by
    have := (KP h0 _ hm).1
    have e : (47 : UInt8).toNat = 47 := rfl
    omega
   cases neg <;> simp [sgn] at hc <;> exact ht hc
theorem zb6 {u v : List UInt8} (h : ∀ c ∈ u, c ≠ 47) : cutR (u ++ [47] ++ v) = (u, v, true) := by
 have hs : zw (u ++ [47] ++ v) = u.length := by
  refine W4 (by simp) (by simp [List.getD]) fun j hj => ?_
  rw [List.append_assoc]
  simp only [List.getD, List.getElem?_append_left hj, List.getElem?_eq_getElem hj, Option.getD_some]
  exact h _ (List.getElem_mem hj)
 rw [u4 (by rw [hs]; simp), hs]
 simp
theorem Ym {u : List UInt8} (h : ∀ c ∈ u, c ≠ 47) : cutR u = (u, [], false) := by
 have hs : zw u = u.length := u7 fun j hj => by
  simp only [List.getD, List.getElem?_eq_getElem hj, Option.getD_some]
  exact h _ (List.getElem_mem hj)
 exact QZ (by omega)
theorem Wa (z : Int) : ∀ c ∈ (wz z).1, c ≠ 47 := Uy _ _
theorem kO {z : Int} (h : room z.natAbs) : (wz z).2 = 0 := wg h
theorem zex : wz 1 = ([49], 0) := vG
theorem xi {r : Rat} (h : wT r) : numR (qstr r) = (wz r.num).1 ∧ denR (qstr r) = (wz (r.den : Int)).1 ∧ (cutR (qstr r)).2.2 = decide (r.den ≠ 1) := by
 unfold qstr
 by_cases h1 : r.den = 1
 ·rw [if_pos h1]
  have := Ym (Wa r.num)
  unfold numR denR
  rw [this, h1]
  exact ⟨rfl, by simp only [Bool.false_eq_true, if_false]; exact (congrArg Prod.fst zex).symm, by simp⟩
 ·rw [if_neg h1]
  have := zb6 (v := (wz (r.den : Int)).1) (Wa r.num)
  unfold numR denR
  rw [this]
  exact ⟨rfl, rfl, by simp [h1]⟩
theorem uz {r : Rat} (h : wT r) : qv (qstr r) = r := by
 obtain ⟨h1, h2, _⟩ := xi h
 unfold qv
 rw [h1, h2, ji (kO h.1), ji (kO (by rw [Int.natAbs_natCast]; exact h.2)), Rat.divInt_ofNat, Rat.mkRat_self]
theorem kM {r : Rat} (h : wT r) : errR (qstr r) = 0 := by
 obtain ⟨h1, h2, h3⟩ := xi h
 have e1 := j0 (kO h.1)
 have e2 : errI (wz (r.den : Int)).1 = 0 := j0 (kO (by rw [Int.natAbs_natCast]; exact h.2))
 have z1 := ji (kO h.1)
 have z2 : zI (wz (r.den : Int)).1 = r.den := ji (kO (by rw [Int.natAbs_natCast]; exact h.2))
 unfold errR
 by_cases hd : r.den = 1
 ·rw [h3, hd]
  simp only [ne_eq, not_true_eq_false, decide_false, Bool.false_eq_true, if_false]
  unfold qstr
  rw [if_pos hd]
  exact e1
 ·have hc : (cutR (qstr r)).2.2 = true := by rw [h3]; simp [hd]
  have n1 : (cutR (qstr r)).1 = (wz r.num).1 := h1
  have n2 : (cutR (qstr r)).2.1 = (wz (r.den : Int)).1 := by unfold denR at h2; rw [hc] at h2; exact h2
  rw [hc, if_pos rfl, n1, n2]
  have hp := r.den_pos
  have hneg : negI (wz (r.den : Int)).1 = false := by rw [kx e2, z2]; exact decide_eq_false (by omega)
  have hn48 : (wz (r.den : Int)).1 ≠ [48] := fun h => by
   rw [h] at z2
   have : zI [48] = 0 := rfl
   omega
  have hn49 : (wz (r.den : Int)).1 ≠ [49] := fun h => by
   rw [h] at z2
   have : zI [49] = 1 := rfl
   omega
  rw [if_neg (by simp [e1, e2, hneg, hn48, hn49]), if_neg (by simp [e1, e2])]
  have hg : gcdR (wz r.num).1 (wz (r.den : Int)).1 = wr false (Nat.gcd r.num.natAbs r.den) := by
   unfold gcdR
   rw [if_pos (zf.2 ⟨e1, e2⟩), ← qI, ← qI, z1, z2, Int.natAbs_natCast]
  have hr : Nat.gcd r.num.natAbs r.den = 1 := r.reduced
  rw [hg, hr, vG, if_neg (by simp)]
theorem yh {a : List UInt8} (h : errR a = 0) : (qv a).num = zI (numR a) ∧ ((qv a).den : Int) = zI (denR a) ∧ qstr (qv a) = a ∧ wT (qv a) := by
 obtain ⟨e1, e2, e3, e4⟩ := qp h
 have hz : zI (denR a) = numI (denR a) := by unfold zI; rw [e3]; rfl
 have hcop : Nat.gcd (numI (numR a)) (numI (denR a)) = 1 := by
  unfold errR at h
  cases hc : (cutR a).2.2 with
  | true =>
   rw [hc, if_pos rfl] at h
   have hd : denR a = (cutR a).2.1 := by unfold denR; rw [hc]; rfl
   rw [hd] at e2 e4 ⊢
   unfold numR at e1 ⊢
   split at h
   ·cases h
   split at h
   ·cases h
   split at h
   ·cases h
   ·rename_i hg
    rw [Classical.not_not] at hg
    unfold gcdR at hg
    rw [if_pos (zf.2 ⟨e1, e2⟩)] at hg
    exact (uN (uS e2 e4).2).1 hg
  | false =>
   have : denR a = [49] := by unfold denR; rw [hc]; rfl
   rw [this]
   exact Nat.gcd_one_right _
 have hq : qv a = ⟨zI (numR a), numI (denR a), e4, by rw [qI]; exact hcop⟩ := by
  unfold qv
  rw [hz, Rat.mk_eq_divInt]
 have hroom : wT (qv a) := by
  rw [hq]
  exact ⟨by show room (zI (numR a)).natAbs; rw [qI]; exact qD e1, qD e2⟩
 refine ⟨by rw [hq], by rw [hq, hz], ?_, hroom⟩
 rw [hq]
 unfold qstr
 simp only
 rw [← hz, kX e1, kX e2]
 cases hc : (cutR a).2.2 with
 | true =>
  have hd : denR a = (cutR a).2.1 := by unfold denR; rw [hc]; rfl
  have hn1 : numI (denR a) ≠ 1 := by
   intro h1
   have : denR a = [49] := by
    have := (Xc e2)
    rw [e3, h1, vG] at this
    exact (congrArg Prod.fst this).symm
   unfold errR at h
   rw [hc, if_pos rfl, if_pos (by rw [← hd, this]; simp)] at h
   cases h
  rw [if_neg hn1, hd]
  simp only [numR]
  unfold cutR at hc ⊢
  split at hc
  ·rename_i hs
   rw [if_pos hs]
   simp only
   have h47 := uL hs
   have : a = a.take (zw a) ++ ([a.getD (zw a) 0] ++ a.drop (zw a + 1)) := by
    conv => lhs; rw [← List.take_append_drop (zw a) a]
    congr 1
    rw [List.drop_eq_getElem_cons hs]
    simp [List.getD, List.getElem?_eq_getElem hs]
   rw [h47] at this
   rw [List.append_assoc]
   exact this.symm
  ·cases hc
 | false =>
  have hd : denR a = [49] := by unfold denR; rw [hc]; rfl
  rw [hd]
  have : numI [49] = 1 := rfl
  rw [if_pos this]
  unfold numR
  unfold cutR at hc ⊢
  split at hc
  ·cases hc
  ·rename_i hs
   rw [if_neg hs]
end Go.Nov
end

/- Rationals: what the operations yield. -/
section
namespace Go.Nov
theorem zbu (a b : Int) (hb : b ≠ 0) : b.sign * a = if (decide (a < 0) != decide (b < 0)) = true then -(a.natAbs : Int) else a.natAbs := by
 by_cases h1 : a < 0
 ·rw [decide_eq_true h1]
  by_cases h2 : b < 0
  ·rw [decide_eq_true h2, Int.sign_eq_neg_one_of_neg h2]; simp; omega
  ·rw [decide_eq_false h2, Int.sign_eq_one_of_pos (by omega)]; simp; omega
 ·rw [decide_eq_false h1]
  by_cases h2 : b < 0
  ·rw [decide_eq_true h2, Int.sign_eq_neg_one_of_neg h2]; simp; omega
  ·rw [decide_eq_false h2, Int.sign_eq_one_of_pos (by omega)]; simp; omega
theorem zg2 {n d : List UInt8} (hn : errI n = 0) (hd : errI d = 0) (h0 : numI d ≠ 0) : q9 n d = (qstr (Rat.divInt (zI n) (zI d)), 0) ∧ wT (Rat.divInt (zI n) (zI d)) := by
 have hz0 : zI d ≠ 0 := fun h => h0 (by rw [← qI, h]; rfl)
 have hg : (zI d).gcd (zI n) = Nat.gcd (numI n) (numI d) := by
  show Nat.gcd _ _ = _
  rw [qI, qI, Nat.gcd_comm]
 have hden : (Rat.divInt (zI n) (zI d)).den = numI d / Nat.gcd (numI n) (numI d) := by
  rw [Rat.den_divInt, if_neg hz0, hg, qI]
 have hdv : Nat.gcd (numI n) (numI d) ∣ numI n := Nat.gcd_dvd_left _ _
 have hnum : (Rat.divInt (zI n) (zI d)).num = if (negI n != negI d) = true then -((numI n / Nat.gcd (numI n) (numI d) : Nat) : Int) else ((numI n / Nat.gcd (numI n) (numI d) : Nat) : Int) := by
  rw [Rat.num_divInt, hg, zbu _ _ hz0, qI, ← kx hn, ← kx hd]
  split
  ·rw [Int.neg_ediv_of_dvd (Int.natCast_dvd_natCast.2 hdv), Int.natCast_ediv]
  ·rw [Int.natCast_ediv]
 have hroom : wT (Rat.divInt (zI n) (zI d)) := by
  refine ⟨?_, by rw [hden]; exact room_le (Nat.div_le_self _ _) (qD hd)⟩
  rw [hnum]
  have : room (numI n / Nat.gcd (numI n) (numI d)) := room_le (Nat.div_le_self _ _) (qD hn)
  split
  ·rw [Int.natAbs_neg, Int.natAbs_natCast]; exact this
  ·rw [Int.natAbs_natCast]; exact this
 refine ⟨?_, hroom⟩
 unfold q9
 rw [if_neg (by rw [zf.2 ⟨hn, hd⟩]; simp), if_neg h0]
 congr 1
 unfold Qx qstr
 rw [hden, hnum]
 have e2 : (wr false (numI d / Nat.gcd (numI n) (numI d))).1 = (wz ((numI d / Nat.gcd (numI n) (numI d) : Nat) : Int)).1 := by rw [Qk]; rfl
 rw [Qk, e2]
theorem Vl {n d : List UInt8} {e f : Int} {z w : Int} (hw : w ≠ 0) (hz : (n, e) = wz z) (hd : (d, f) = wz w) : frac (n, e) (d, f) = ([], 14) ∨ (frac (n, e) (d, f) = (qstr (Rat.divInt z w), 0) ∧ wT (Rat.divInt z w)) := by
 unfold frac
 by_cases he : e = 0
 ·by_cases hf : f = 0
  ·subst he; subst hf
   have h1 : (wz z).2 = 0 := by rw [← hz]
   have h2 : (wz w).2 = 0 := by rw [← hd]
   have n1 : n = (wz z).1 := by rw [← hz]
   have n2 : d = (wz w).1 := by rw [← hd]
   have z1 := ji h1
   have z2 := ji h2
   have e1 := j0 h1
   have e2 := j0 h2
   rw [← n1] at z1 e1
   rw [← n2] at z2 e2
   right
   rw [if_neg (by simp)]
   have := zg2 e1 e2 (fun h => hw (by rw [← z2]; have := qI d; omega))
   rw [z1, z2] at this
   exact this
  ·left; rw [if_pos (.inr hf)]
 ·left; rw [if_pos (.inl he)]
section
variable {a b : List UInt8} (ha : errR a = 0) (hb : errR b = 0)
include ha hb
theorem uA : errI (numR a) = 0 ∧ errI (denR a) = 0 ∧ errI (numR b) = 0 ∧ errI (denR b) = 0 ∧ zI (denR a) ≠ 0 ∧ zI (denR b) ≠ 0 ∧ zL a b = 0 := by
 obtain ⟨a1, a2, _, a4⟩ := qp ha
 obtain ⟨b1, b2, _, b4⟩ := qp hb
 exact ⟨a1, a2, b1, b2, fun h => a4 (by rw [← qI, h]; rfl), fun h => b4 (by rw [← qI, h]; rfl), by unfold zL; rw [if_pos ha]; exact hb⟩
theorem kG : zq a b = 14 ∨ (zq a b = 0 ∧ mulI (numR a) (denR b) = wz (zI (numR a) * zI (denR b)) ∧ mulI (numR b) (denR a) = wz (zI (numR b) * zI (denR a)) ∧ (mulI (numR a) (denR b)).2 = 0 ∧ (mulI (numR b) (denR a)).2 = 0) := by
 obtain ⟨a1, a2, b1, b2, a4, b4, h2⟩ := uA ha hb
 have m1 := ka (zf.2 ⟨a1, b2⟩)
 have m2 := ka (zf.2 ⟨b1, a2⟩)
 unfold zq
 rw [if_neg (by rw [h2]; simp)]
 by_cases h : (mulI (numR a) (denR b)).2 ≠ 0 ∨ (mulI (numR b) (denR a)).2 ≠ 0
 ·left; rw [if_pos h]
 ·right
  rw [if_neg h]
  simp only [not_or, Classical.not_not] at h
  exact ⟨rfl, m1, m2, h.1, h.2⟩
theorem zg1 : addR a b = ([], 14) ∨ (addR a b = (qstr (qv a + qv b), 0) ∧ wT (qv a + qv b)) := by
 obtain ⟨a1, a2, b1, b2, a4, b4, h2⟩ := uA ha hb
 unfold addR
 rcases kG ha hb with h | ⟨h, m1, m2, k1, k2⟩
 ·left; rw [h]; rfl
 ·rw [h, if_neg (by simp)]
  rw [m1] at k1
  rw [m2] at k2
  have e1 := j0 k1
  have e2 := j0 k2
  have := Vl (n := (addI (mulI (numR a) (denR b)).1 (mulI (numR b) (denR a)).1).1) (e := (addI (mulI (numR a) (denR b)).1 (mulI (numR b) (denR a)).1).2) (d := (mulI (denR a) (denR b)).1) (f := (mulI (denR a) (denR b)).2)
   (z := zI (numR a) * zI (denR b) + zI (numR b) * zI (denR a)) (w := zI (denR a) * zI (denR b)) (Int.mul_ne_zero a4 b4) (by rw [m1, m2, UK (zf.2 ⟨e1, e2⟩), ji k1, ji k2]) (by rw [ka (zf.2 ⟨a2, b2⟩)])
  unfold qv
  rw [Rat.divInt_add_divInt _ _ a4 b4]
  exact this
theorem zf5 : subR a b = ([], 14) ∨ (subR a b = (qstr (qv a - qv b), 0) ∧ wT (qv a - qv b)) := by
 obtain ⟨a1, a2, b1, b2, a4, b4, h2⟩ := uA ha hb
 unfold subR
 rcases kG ha hb with h | ⟨h, m1, m2, k1, k2⟩
 ·left; rw [h]; rfl
 ·rw [h, if_neg (by simp)]
  rw [m1] at k1
  rw [m2] at k2
  have e1 := j0 k1
  have e2 := j0 k2
  have := Vl (n := (subI (mulI (numR a) (denR b)).1 (mulI (numR b) (denR a)).1).1) (e := (subI (mulI (numR a) (denR b)).1 (mulI (numR b) (denR a)).1).2) (d := (mulI (denR a) (denR b)).1) (f := (mulI (denR a) (denR b)).2)
   (z := zI (numR a) * zI (denR b) - zI (numR b) * zI (denR a)) (w := zI (denR a) * zI (denR b)) (Int.mul_ne_zero a4 b4) (by rw [m1, m2, UE (zf.2 ⟨e1, e2⟩), ji k1, ji k2]) (by rw [ka (zf.2 ⟨a2, b2⟩)])
  unfold qv
  rw [Rat.divInt_sub_divInt _ _ a4 b4]
  exact this
theorem zfz : mulR a b = ([], 14) ∨ (mulR a b = (qstr (qv a * qv b), 0) ∧ wT (qv a * qv b)) := by
 obtain ⟨a1, a2, b1, b2, a4, b4, h2⟩ := uA ha hb
 unfold mulR
 rw [h2, if_neg (by simp)]
 have := Vl (n := (mulI (numR a) (numR b)).1) (e := (mulI (numR a) (numR b)).2) (d := (mulI (denR a) (denR b)).1) (f := (mulI (denR a) (denR b)).2)
  (z := zI (numR a) * zI (numR b)) (w := zI (denR a) * zI (denR b)) (Int.mul_ne_zero a4 b4) (by rw [ka (zf.2 ⟨a1, b1⟩)]) (by rw [ka (zf.2 ⟨a2, b2⟩)])
 unfold qv
 rw [Rat.divInt_mul_divInt]
 exact this
theorem Y3 : cmpR a b = (0, 14) ∨ cmpR a b = (if qv a < qv b then -1 else if qv b < qv a then 1 else 0, 0) := by
 obtain ⟨a1, a2, b1, b2, a4, b4, h2⟩ := uA ha hb
 obtain ⟨p1, p2, _, _⟩ := yh ha
 obtain ⟨r1, r2, _, _⟩ := yh hb
 unfold cmpR
 rcases kG ha hb with h | ⟨h, m1, m2, k1, k2⟩
 ·left; rw [h]; rfl
 ·right
  rw [h, if_neg (by simp)]
  rw [m1] at k1
  rw [m2] at k2
  have e1 := j0 k1
  have e2 := j0 k2
  rw [m1, m2]
  unfold wP
  rw [if_pos (zf.2 ⟨e1, e2⟩)]
  congr 1
  have hx : ∀ s : List UInt8, errI s = 0 → negI s = true → numI s ≠ 0 := fun s he hn h0 => by
   rw [(wy he).2 h0] at hn; cases hn
  rw [zeu _ _ _ _ (hx _ e1) (hx _ e2)]
  show cmpI (zI (wz (zI (numR a) * zI (denR b))).1) (zI (wz (zI (numR b) * zI (denR a))).1) = _
  rw [ji k1, ji k2, ← p1, ← p2, ← r1, ← r2]
  unfold cmpI
  simp only [Rat.lt_iff]
end
theorem zcy {a b : List UInt8} (ha : errR a = 0) (hb : errR b = 0) (h : (addR a b).2 = 0) : errR (addR a b).1 = 0 ∧ qv (addR a b).1 = qv a + qv b := by
 rcases zg1 ha hb with h1 | ⟨h1, h2⟩
 ·rw [h1] at h; cases h
 ·rw [h1]; exact ⟨kM h2, uz h2⟩
theorem zce {a b : List UInt8} (ha : errR a = 0) (hb : errR b = 0) (h : (subR a b).2 = 0) : errR (subR a b).1 = 0 ∧ qv (subR a b).1 = qv a - qv b := by
 rcases zf5 ha hb with h1 | ⟨h1, h2⟩
 ·rw [h1] at h; cases h
 ·rw [h1]; exact ⟨kM h2, uz h2⟩
theorem zcl {a b : List UInt8} (ha : errR a = 0) (hb : errR b = 0) (h : (mulR a b).2 = 0) : errR (mulR a b).1 = 0 ∧ qv (mulR a b).1 = qv a * qv b := by
 rcases zfz ha hb with h1 | ⟨h1, h2⟩
 ·rw [h1] at h; cases h
 ·rw [h1]; exact ⟨kM h2, uz h2⟩
end Go.Nov
end

/- Expressions: their values. -/
section
namespace Go.Nov
open Go.Sx
structure Ev where
 v : List UInt8
 e : Int
 b : Bool
 g : Int
abbrev Ev.nil : Ev := ⟨[], 0, false, 0⟩
def jc (k : Int) (a b : List UInt8) : List UInt8 × Int :=
 if k = 7 then (if (cmpR a b).2 ≠ 0 then ([], (cmpR a b).2) else (if (cmpR a b).1 < 0 then b else a, 0))
 else (if (cmpR b a).2 ≠ 0 then ([], (cmpR b a).2) else (if (cmpR b a).1 < 0 then b else a, 0))
def opR (k : Int) (a b : List UInt8) : List UInt8 × Int := if k = 4 then addR a b else if k = 5 then subR a b else if k = 6 then mulR a b else jc k a b
def fixR (f : List Fx) (a : List UInt8) (d : Int) : List UInt8 × Int := if (jp f a d).2 = true then ((jp f a d).1, 0) else ([], 30)
def ki {α : Type} (z : α) (l0 l1 : Ev) (f : List UInt8 → List UInt8 → α × Int) : α × Int := if l0.e ≠ 0 then (z, l0.e) else if l1.e ≠ 0 then (z, l1.e) else f l0.v l1.v
def valN (f : List Fx) (day k : Int) (r n : List UInt8) (d : Int) (l : List Ev) : List UInt8 × Int :=
 if k = 1 then (r, 0) else if k = 2 then fixR f n d else if k = 3 then fixR f n day
 else if k = 9 then (if (l.getD 0 Ev.nil).g ≠ 0 then ([], (l.getD 0 Ev.nil).g) else if (l.getD 0 Ev.nil).b then ((l.getD 1 Ev.nil).v, (l.getD 1 Ev.nil).e) else ((l.getD 2 Ev.nil).v, (l.getD 2 Ev.nil).e))
 else ki [] (l.getD 0 Ev.nil) (l.getD 1 Ev.nil) (opR k)
def uM (k : Int) (a b : List UInt8) : Bool × Int := if (cmpR a b).2 ≠ 0 then (false, (cmpR a b).2) else (if k = 11 then decide ((cmpR a b).1 < 0) else decide ((cmpR a b).1 = 0), 0)
def hldN (k : Int) (l : List Ev) : Bool × Int :=
 if 13 ≤ k then (if (l.getD 0 Ev.nil).g ≠ 0 then (false, (l.getD 0 Ev.nil).g) else if k = 15 then (!(l.getD 0 Ev.nil).b, 0)
  else if (l.getD 0 Ev.nil).b = decide (k = 14) then ((l.getD 0 Ev.nil).b, 0) else ((l.getD 1 Ev.nil).b, (l.getD 1 Ev.nil).g))
 else ki false (l.getD 0 Ev.nil) (l.getD 1 Ev.nil) (uM k)
def evN (f : List Fx) (day k : Int) (r n : List UInt8) (d : Int) (l : List Ev) : Ev := ⟨(valN f day k r n d l).1, (valN f day k r n d l).2, (hldN k l).1, (hldN k l).2⟩
namespace Ex
mutual
def ev (f : List Fx) (day : Int) : Ex → Ev
 | mk k r n d s => evN f day k r n d (evs f day s)
def evs (f : List Fx) (day : Int) : List Ex → List Ev
 | [] => []
 | x :: l => ev f day x :: evs f day l
end
theorem zA {f : List Fx} {day : Int} {s : List Ex} {i : Nat} (h : i < s.length) : (evs f day s).getD i Ev.nil = (s.getD i nil).ev f day := by
 induction s generalizing i with
 | nil => simp at h
 | cons x s ih =>
  rw [evs]
  cases i with
  | zero => rfl
  | succ i => exact ih (by simpa using h)
theorem yz {x : Ex} (h : x.z9 = 1) : (x.kind = 1 ∧ errR x.rat = 0) ∨ x.kind = 2 ∨ x.kind = 3 ∨
  ((4 ≤ x.kind ∧ x.kind ≤ 8) ∧ x.sub.length = 2 ∧ (x.sub.getD 0 nil).z9 = 1 ∧ (x.sub.getD 1 nil).z9 = 1) ∨
  (x.kind = 9 ∧ x.sub.length = 3 ∧ (x.sub.getD 0 nil).z9 = 2 ∧ (x.sub.getD 1 nil).z9 = 1 ∧ (x.sub.getD 2 nil).z9 = 1) := by
 rw [yi] at h
 by_cases hk : qP x.kind = true
 ·have hk2 : (4 ≤ x.kind ∧ x.kind ≤ 9) ∨ (11 ≤ x.kind ∧ x.kind ≤ 15) := by
   by_cases h1 : 4 ≤ x.kind ∧ x.kind ≤ 9
   ·exact .inl h1
   ·by_cases h2 : 11 ≤ x.kind ∧ x.kind ≤ 15
    ·exact .inr h2
    ·rw [Vx h1 h2] at hk; cases hk
  have two : ∀ {k : Int} {ps : List Int} {w : Int}, yf k = some (ps, w) → jm k x.rat x.name x.date (q7 x.sub) = 1 → w = 1 ∧ x.sub.length = ps.length ∧ ∀ i, i < x.sub.length → (x.sub.getD i nil).z9 = ps.getD i 0 := by
   intro k ps w hs hn
   rw [jB hs] at hn
   split at hn
   ·rename_i hc
    exact ⟨hn, yk.1 hc.2⟩
   ·cases hn
  generalize x.kind = k at h hk2 ⊢
  have hk3 : k = 4 ∨ k = 5 ∨ k = 6 ∨ k = 7 ∨ k = 8 ∨ k = 9 ∨ k = 11 ∨ k = 12 ∨ k = 13 ∨ k = 14 ∨ k = 15 := by omega
  right; right; right
  rcases hk3 with rfl | rfl | rfl | rfl | rfl | rfl | rfl | rfl | rfl | rfl | rfl
  iterate 5
   ·left
    obtain ⟨_, h2, h3⟩ := two rfl h
    exact ⟨by decide, h2, h3 0 (by rw [h2]; decide), h3 1 (by rw [h2]; decide)⟩
  ·right
   obtain ⟨_, h2, h3⟩ := two rfl h
   exact ⟨rfl, h2, h3 0 (by rw [h2]; decide), h3 1 (by rw [h2]; decide), h3 2 (by rw [h2]; decide)⟩
  all_goals
   obtain ⟨h1, _⟩ := two rfl h
   cases h1
 ·have hk : qP x.kind = false := by simpa using hk
  rw [jD hk] at h
  split at h
  ·rename_i hl
   simp only [zZ, Bool.and_eq_true] at hl
   obtain ⟨_, hl⟩ := hl
   split at hl
   ·rename_i h1
    simp only [Bool.and_eq_true, decide_eq_true_eq] at hl
    exact .inl ⟨h1, hl.1.1⟩
   ·split at hl
    ·rename_i h2; exact .inr (.inl h2)
    ·split at hl
     ·rename_i h3; exact .inr (.inr (.inl h3))
     ·cases hl
  ·cases h
theorem yX {x : Ex} (h : x.z9 = 2) : ((x.kind = 11 ∨ x.kind = 12) ∧ x.sub.length = 2 ∧ (x.sub.getD 0 nil).z9 = 1 ∧ (x.sub.getD 1 nil).z9 = 1) ∨
  ((x.kind = 13 ∨ x.kind = 14) ∧ x.sub.length = 2 ∧ (x.sub.getD 0 nil).z9 = 2 ∧ (x.sub.getD 1 nil).z9 = 2) ∨ (x.kind = 15 ∧ x.sub.length = 1 ∧ (x.sub.getD 0 nil).z9 = 2) := by
 rw [yi] at h
 by_cases hk : qP x.kind = true
 ·have hk2 : (4 ≤ x.kind ∧ x.kind ≤ 9) ∨ (11 ≤ x.kind ∧ x.kind ≤ 15) := by
   by_cases h1 : 4 ≤ x.kind ∧ x.kind ≤ 9
   ·exact .inl h1
   ·by_cases h2 : 11 ≤ x.kind ∧ x.kind ≤ 15
    ·exact .inr h2
    ·rw [Vx h1 h2] at hk; cases hk
  have two : ∀ {k : Int} {ps : List Int} {w : Int}, yf k = some (ps, w) → jm k x.rat x.name x.date (q7 x.sub) = 2 → w = 2 ∧ x.sub.length = ps.length ∧ ∀ i, i < x.sub.length → (x.sub.getD i nil).z9 = ps.getD i 0 := by
   intro k ps w hs hn
   rw [jB hs] at hn
   split at hn
   ·rename_i hc
    exact ⟨hn, yk.1 hc.2⟩
   ·cases hn
  generalize x.kind = k at h hk2 ⊢
  have hk3 : k = 4 ∨ k = 5 ∨ k = 6 ∨ k = 7 ∨ k = 8 ∨ k = 9 ∨ k = 11 ∨ k = 12 ∨ k = 13 ∨ k = 14 ∨ k = 15 := by omega
  rcases hk3 with rfl | rfl | rfl | rfl | rfl | rfl | rfl | rfl | rfl | rfl | rfl
  iterate 6
   ·obtain ⟨h1, _⟩ := two rfl h
    cases h1
  ·obtain ⟨_, h2, h3⟩ := two rfl h
   exact .inl ⟨.inl rfl, h2, h3 0 (by rw [h2]; decide), h3 1 (by rw [h2]; decide)⟩
  ·obtain ⟨_, h2, h3⟩ := two rfl h
   exact .inl ⟨.inr rfl, h2, h3 0 (by rw [h2]; decide), h3 1 (by rw [h2]; decide)⟩
  ·obtain ⟨_, h2, h3⟩ := two rfl h
   exact .inr (.inl ⟨.inl rfl, h2, h3 0 (by rw [h2]; decide), h3 1 (by rw [h2]; decide)⟩)
  ·obtain ⟨_, h2, h3⟩ := two rfl h
   exact .inr (.inl ⟨.inr rfl, h2, h3 0 (by rw [h2]; decide), h3 1 (by rw [h2]; decide)⟩)
  ·obtain ⟨_, h2, h3⟩ := two rfl h
   exact .inr (.inr ⟨rfl, h2, h3 0 (by rw [h2]; decide)⟩)
 ·have hk : qP x.kind = false := by simpa using hk
  rw [jD hk] at h
  split at h <;> cases h
end Ex
theorem zak {f : List Fx} {a : List UInt8} {d : Int} (h : (jp f a d).2 = false) : (jp f a d).1 = [] := by
 unfold jp at h ⊢
 split
 ·rename_i y hy; rw [hy] at h; cases h
 ·rfl
theorem Xm {f : List Fx} (hf : f.all okF = true) {a : List UInt8} {d : Int} (h : (fixR f a d).2 = 0) : errR (fixR f a d).1 = 0 := by
 unfold fixR at h ⊢
 split
 ·rename_i h1
  unfold jp at h1 ⊢
  split at h1
  ·rename_i y hy
   have hm := List.mem_of_find?_eq_some hy
   have := List.all_eq_true.1 hf _ hm
   simp only [okF, Bool.and_eq_true, decide_eq_true_eq] at this
   exact this.2
  ·cases h1
 ·rename_i h1
  rw [if_neg h1] at h
  cases h
theorem zbn {k : Int} {a b : List UInt8} (ha : errR a = 0) (hb : errR b = 0) (h : (jc k a b).2 = 0) : errR (jc k a b).1 = 0 := by
 unfold jc at h ⊢
 split
 ·rename_i h1
  rw [if_pos h1] at h
  split
  ·rename_i h2; rw [if_pos h2] at h; exact absurd h h2
  ·simp only; split <;> assumption
 ·rename_i h1
  rw [if_neg h1] at h
  split
  ·rename_i h2; rw [if_pos h2] at h; exact absurd h h2
  ·simp only; split <;> assumption
theorem zfa {k : Int} {a b : List UInt8} (ha : errR a = 0) (hb : errR b = 0) (h : (opR k a b).2 = 0) : errR (opR k a b).1 = 0 := by
 unfold opR at h ⊢
 split
 ·rename_i h1; rw [if_pos h1] at h; exact (zcy ha hb h).1
 ·rename_i h1
  rw [if_neg h1] at h
  split
  ·rename_i h2; rw [if_pos h2] at h; exact (zce ha hb h).1
  ·rename_i h2
   rw [if_neg h2] at h
   split
   ·rename_i h3; rw [if_pos h3] at h; exact (zcl ha hb h).1
   ·rename_i h3
    rw [if_neg h3] at h
    exact zbn ha hb h
theorem jO {a : List UInt8} (h : errR a = 0) : a.length ≤ 2003 := by
 have h1 := (yh h).2.2.1
 rw [← h1]
 unfold qstr wz
 have g1 := j9 (decide ((qv a).num < 0)) (qv a).num.natAbs
 have g2 := j9 (decide (((qv a).den : Int) < 0)) ((qv a).den : Int).natAbs
 split
 ·omega
 ·simp only [List.length_append, List.length_cons, List.length_nil]
  omega
theorem Ex.vX {f : List Fx} (hf : f.all okF = true) (day : Int) : ∀ x : Ex, x.z9 = 1 → (x.ev f day).e = 0 → errR (x.ev f day).v = 0
 | .mk k r n d s, hs, he => by
  have hc := Ex.yz hs
  simp only [Ex.kind, Ex.rat, Ex.sub] at hc
  rw [Ex.ev] at he ⊢
  simp only [evN] at he ⊢
  unfold valN at he ⊢
  rcases hc with ⟨rfl, h1⟩ | rfl | rfl | ⟨⟨h1, h2⟩, h3, h4, h5⟩ | ⟨rfl, h3, h4, h5, h6⟩
  ·simpa using h1
  ·simp only [show ¬ (2 : Int) = 1 by decide, if_false, if_true] at he ⊢
   exact Xm hf he
  ·simp only [show ¬ (3 : Int) = 1 by decide, show ¬ (3 : Int) = 2 by decide, if_false, if_true] at he ⊢
   exact Xm hf he
  ·rw [if_neg (by omega), if_neg (by omega), if_neg (by omega), if_neg (by omega)] at he ⊢
   rw [Ex.zA (by omega), Ex.zA (by omega)] at he ⊢
   unfold ki at he ⊢
   have w0 : s.getD 0 Ex.nil ∈ s := by simp [List.getD, List.getElem?_eq_getElem (show 0 < s.length by omega)]
   have w1 : s.getD 1 Ex.nil ∈ s := by simp [List.getD, List.getElem?_eq_getElem (show 1 < s.length by omega)]
   split
   ·rename_i g; rw [if_pos g] at he; exact absurd he g
   ·rename_i g
    rw [if_neg g] at he
    split
    ·rename_i g2; rw [if_pos g2] at he; exact absurd he g2
    ·rename_i g2
     rw [if_neg g2] at he
     rw [Classical.not_not] at g g2
     exact zfa (Ex.vX hf day _ h4 g) (Ex.vX hf day _ h5 g2) he
  ·simp only [show ¬ (9 : Int) = 1 by decide, show ¬ (9 : Int) = 2 by decide, show ¬ (9 : Int) = 3 by decide, if_false, if_true] at he ⊢
   rw [Ex.zA (by omega), Ex.zA (by omega), Ex.zA (by omega)] at he ⊢
   have w1 : s.getD 1 Ex.nil ∈ s := by simp [List.getD, List.getElem?_eq_getElem (show 1 < s.length by omega)]
   have w2 : s.getD 2 Ex.nil ∈ s := by simp [List.getD, List.getElem?_eq_getElem (show 2 < s.length by omega)]
   split
   ·rename_i g; rw [if_pos g] at he; exact absurd he g
   ·rename_i g
    rw [if_neg g] at he
    split
    ·rename_i g2; rw [if_pos g2] at he; exact Ex.vX hf day _ h5 he
    ·rename_i g2; rw [if_neg g2] at he; exact Ex.vX hf day _ h6 he
termination_by x => x.size
decreasing_by
 all_goals
  rw [Ex.size]
  have a0 := Ex.z6 (s := s) (i := 0)
  have a1 := Ex.z6 (s := s) (i := 1)
  have a2 := Ex.z6 (s := s) (i := 2)
  first
  | (have := a0 (by omega); omega)
  | (have := a1 (by omega); omega)
  | (have := a2 (by omega); omega)
theorem Yo {a b : List UInt8} (ha : errR a = 0) (hb : errR b = 0) : zq b a = zq a b := by
 have h1 : zL a b = 0 := by unfold zL; rw [if_pos ha]; exact hb
 have h2 : zL b a = 0 := by unfold zL; rw [if_pos hb]; exact ha
 unfold zq
 have n0 : ¬ (0 : Int) ≠ 0 := by simp
 rw [h1, h2, if_neg n0, if_neg n0]
 by_cases h : (mulI (numR a) (denR b)).2 ≠ 0 ∨ (mulI (numR b) (denR a)).2 ≠ 0
 ·rw [if_pos h, if_pos h.symm]
 ·rw [if_neg h, if_neg fun h2 => h h2.symm]
theorem Ug {a b : List UInt8} (ha : errR a = 0) (hb : errR b = 0) : (cmpR b a).2 = (cmpR a b).2 ∧ ((cmpR b a).1 < 0 ↔ 0 < (cmpR a b).1) := by
 have hs := Yo ha hb
 rcases Y3 ha hb with h1 | h1
 ·have hc : zq a b ≠ 0 := fun h0 => by
   have : cmpR a b = wP (mulI (numR a) (denR b)).1 (mulI (numR b) (denR a)).1 := by unfold cmpR; rw [h0]; rfl
   rcases kG ha hb with h | ⟨_, m1, m2, k1, k2⟩
   ·rw [h] at h0; cases h0
   ·rw [m1] at k1; rw [m2] at k2
    rw [this, m1, m2] at h1
    unfold wP at h1
    rw [if_pos (zf.2 ⟨j0 k1, j0 k2⟩)] at h1
    exact absurd (show (0 : Int) = 14 from congrArg Prod.snd h1) (by decide)
  have : cmpR b a = (0, zq b a) := by unfold cmpR; rw [if_pos (by rw [hs]; exact hc)]
  have h2 : cmpR a b = (0, zq a b) := by unfold cmpR; rw [if_pos hc]
  rw [this, h2, hs]
  exact ⟨rfl, Iff.rfl⟩
 ·rcases Y3 hb ha with h2 | h2
  ·have hc : zq a b = 0 := by
    by_cases h0 : zq a b = 0
    ·exact h0
    ·have : cmpR a b = (0, zq a b) := by unfold cmpR; rw [if_pos h0]
     rw [this] at h1
     exact absurd (congrArg Prod.snd h1) h0
   rcases kG hb ha with h | ⟨_, m1, m2, k1, k2⟩
   ·rw [hs, hc] at h; cases h
   ·rw [m1] at k1; rw [m2] at k2
    unfold cmpR at h2
    rw [hs, hc, if_neg (by simp), m1, m2] at h2
    unfold wP at h2
    rw [if_pos (zf.2 ⟨j0 k1, j0 k2⟩)] at h2
    exact absurd (show (0 : Int) = 14 from congrArg Prod.snd h2) (by decide)
  ·rw [h1, h2]
   refine ⟨rfl, ?_⟩
   simp only
   by_cases g1 : qv a < qv b
   ·have g2 : ¬ qv b < qv a := fun g => (Rat.lt_iff_le_and_not_ge.1 g1).2 (Rat.le_of_lt g)
    rw [if_pos g1, if_neg g2, if_pos g1]; decide
   ·rw [if_neg g1, if_neg g1]
    by_cases g2 : qv b < qv a
    ·rw [if_pos g2, if_pos g2]; decide
    ·rw [if_neg g2, if_neg g2]
end Go.Nov
end

/- Evaluation: the state and its steps. -/
section
set_option maxRecDepth 100000
open Go Go.Sx Go.Proofs Go.Nov
namespace Go.Proofs.Tryz
attribute [local simp] eqKV eqA eqA0 eqH eqB eqL eqL0
noncomputable def K43 : List Go.Sx.Item := [.code (Tryz.f43.body.getD .skip)]
noncomputable def K90 : List Go.Sx.Item := [.code (Tryz.f90.body.getD .skip)]
noncomputable def K42 : List Go.Sx.Item := [.code (Tryz.f42.body.getD .skip)]
noncomputable def K53 : List Go.Sx.Item := [.code (Tryz.f53.body.getD .skip)]
noncomputable def K167 : List Go.Sx.Item := [.code (Tryz.f167.body.getD .skip)]
noncomputable def K168 : List Go.Sx.Item := [.code (Tryz.f168.body.getD .skip)]
noncomputable def K169 : List Go.Sx.Item := [.code (Tryz.f169.body.getD .skip)]
noncomputable def K170 : List Go.Sx.Item := [.code (Tryz.f170.body.getD .skip)]
noncomputable def K171 : List Go.Sx.Item := [.code (Tryz.f171.body.getD .skip)]
structure St8 where
 f : List Fx
 c : List Ch
 day : Int
 e : Int
def St8.box (s : St8) : Blk := .box [fxS s.f, chS s.c, .int .i64 s.day, .int .i64 s.e]
def St8.err (s : St8) (e : Int) : St8 := ⟨s.f, s.c, s.day, e⟩
theorem qk (f : List Fx) (c : List Ch) (day e : Int) : eqH [.box [.sl f.length 3 (fxG f), .sl c.length 4 (chG c), .int .i64 day, .int .i64 e]] [(St8.mk f c day e).box] := ⟨⟨⟨rfl, rfl, za _ _ _⟩, ⟨rfl, rfl, za _ _ _⟩, ⟨rfl, rfl⟩, ⟨rfl, rfl⟩, trivial⟩, trivial⟩
theorem RetR.st8 {ctr : Ctr} {Q : AV × Heap → Prop} {rs : List AV} {f : List Fx} {c : List Ch} {day e : Int} {r : AV} (hf : ctr.fresh = false) (hq : Q (r, [(St8.mk f c day e).box])) (hs : xK r = true) (hr : resV rs = r) (h2 : exp2 [.box [.sl f.length 3 (fxG f), .sl c.length 4 (chG c), .int .i64 day, .int .i64 e]] [0] r = r := by rfl) : RetR ctr 1 Q rs [.box [.sl f.length 3 (fxG f), .sl c.length 4 (chG c), .int .i64 day, .int .i64 e]] := by
 subst hr
 refine RetR.keep [0] rfl rfl (by decide) hf hq ?_ ?_ rfl
 ·rw [h2]; exact yI hs
 ·exact qk f c day e
structure KS where
 s : St8
 x : List UInt8
 e : Int
def Vp : Ctr := ctrT false false (fun k : KS => [.ptr 0 0, .str k.x, .int .i64 k.e]) (fun k => [k.s.box]) (fun _ => True) (fun k r => r = if k.s.e = 0 then k.e else k.s.e) (fun k (r : Int) => (.str k.x, [(k.s.err r).box]))
def zaw : Ctr := ctrT false false (fun k : St8 × Int × Int => [.ptr 0 0, .int .i64 k.2.1, .int .i64 k.2.2]) (fun k => [k.1.box]) (fun _ => True) (fun k r => r = if k.1.e = 0 then k.2.2 else k.1.e) (fun k (r : Int) => (.int .i64 k.2.1, [(k.1.err r).box]))
theorem W9 : zc Tryz.prog 43 Vp := by
 refine zN (fn := Tryz.f43) (c := Tryz.f43.body.getD .skip) rfl rfl rfl (fun h => by cases h) fun k hk O w0 σ0 Q hl0 hq => ?_
 obtain ⟨⟨f, c, day, e⟩, x, e'⟩ := k
 replace hq := hq _ rfl
 simp only at hq
 refine zb.run hmix zo [] 400 (T := .ite (decide (e = 0)) (.leaf (.ret [.str x] [.box [.sl f.length 3 (fxG f), .sl c.length 4 (chG c), .int .i64 day, .int .i64 e']])) (.leaf (.ret [.str x] [.box [.sl f.length 3 (fxG f), .sl c.length 4 (chG c), .int .i64 day, .int .i64 e]]))) (by kernel_rfl) ?_
 simp only [Tree.holds, zd]
 refine ⟨fun h => ?_, fun h => ?_⟩
 ·rw [if_pos (of_decide_eq_true h)] at hq
  exact RetR.st8 rfl hq rfl rfl
 ·rw [if_neg (of_decide_eq_false h)] at hq
  exact RetR.st8 rfl hq rfl rfl
theorem zaa : zc Tryz.prog 90 zaw := by
 refine zN (fn := Tryz.f90) (c := Tryz.f90.body.getD .skip) rfl rfl rfl (fun h => by cases h) fun k hk O w0 σ0 Q hl0 hq => ?_
 obtain ⟨⟨f, c, day, e⟩, x, e'⟩ := k
 replace hq := hq _ rfl
 simp only at hq
 refine zb.run hmix zo [] 400 (T := .ite (decide (e = 0)) (.leaf (.ret [.int .i64 x] [.box [.sl f.length 3 (fxG f), .sl c.length 4 (chG c), .int .i64 day, .int .i64 e']])) (.leaf (.ret [.int .i64 x] [.box [.sl f.length 3 (fxG f), .sl c.length 4 (chG c), .int .i64 day, .int .i64 e]]))) (by kernel_rfl) ?_
 simp only [Tree.holds, zd]
 refine ⟨fun h => ?_, fun h => ?_⟩
 ·rw [if_pos (of_decide_eq_true h)] at hq
  exact RetR.st8 rfl hq rfl rfl
 ·rw [if_neg (of_decide_eq_false h)] at hq
  exact RetR.st8 rfl hq rfl rfl
def fixC : Ctr := ctrT false false (fun k : KS => [.ptr 0 0, .str k.x, .int .i64 k.e]) (fun k => [k.s.box]) (fun k => k.s.f.length < 2 ^ 40 ∧ k.s.e = 0) (fun k r => r = fixR k.s.f k.x k.e) (fun k (r : List UInt8 × Int) => (.str r.1, [(k.s.err r.2).box]))
def GFx : Nat → Option Ctr := fun f => if f = 77 then some (KH) else if f = 43 then some (Vp) else none
theorem zeo : ∀ g c, GFx g = some c → zc Tryz.prog g c := okIf zcb (okIf W9 (okNone))
theorem XQ : zc Tryz.prog 42 fixC := by
 refine zN (fn := Tryz.f42) (c := Tryz.f42.body.getD .skip) rfl rfl rfl (fun h => by cases h) fun k hk O w0 σ0 Q hl0 hq => ?_
 obtain ⟨⟨f, c, day, e⟩, x, d⟩ := k
 obtain ⟨h1, h2⟩ := hk
 replace hq := hq _ rfl
 simp only at h1 h2 hq
 subst h2
 refine zb.run hmix zeo [] 400 (T := .ex (fun (x_1 : (List Fx × List Ch) × List UInt8 × Int) => eqL [AV.agg [AV.sl f.length 3 (fxG f), AV.sl c.length 4 (chG c)], AV.str x, AV.int .i64 d] [AV.agg [AV.sl (List.length (x_1.1.1)) 3 (fxG (x_1.1.1)), AV.sl x_1.1.2.length 4 (chG x_1.1.2)], AV.str (x_1.2.1), AV.int .i64 (x_1.2.2)] ∧ List.length (x_1.1.1) < 1099511627776) fun n => .all (fun (r : List UInt8 × Bool) => r = jp (n.1.1) (n.2.1) (n.2.2)) fun n => .ite (!Prod.snd n) (.ex (fun (x : KS) => eqL [AV.ptr 0 0, AV.str n.1, AV.int .i64 30] [AV.ptr 0 0, AV.str x.x, AV.int .i64 x.e] ∧ eqH [.box [AV.sl f.length 3 (fxG f), AV.sl c.length 4 (chG c), AV.int .i64 day, AV.int .i64 0]] [.box [AV.sl x.s.f.length 3 (fxG x.s.f), AV.sl x.s.c.length 4 (chG x.s.c), AV.int .i64 x.s.day, AV.int .i64 x.s.e]] ∧ 1 = 1 ∧ True) fun n => .all (fun (r : Int) => r = if St8.e n.s = 0 then KS.e n else St8.e n.s) fun n_1 => .leaf (.ret [.str n.x] [.box [.sl (List.length (St8.f (n.s.err n_1))) 3 (fxG (St8.f (n.s.err n_1))), .sl (List.length (St8.c (n.s.err n_1))) 4 (chG (St8.c (n.s.err n_1))), .int .i64 (St8.day (n.s.err n_1)), .int .i64 (St8.e (n.s.err n_1))]])) (.leaf (.ret [.str n.1] [.box [.sl f.length 3 (fxG f), .sl c.length 4 (chG c), .int .i64 day, .int .i64 0]]))) (by kernel_rfl) ?_
 simp only [Tree.holds, zd]
 refine ⟨((f, c), (x, d)), ⟨⟨⟨⟨rfl, rfl, za _ _ _⟩, ⟨rfl, rfl, za _ _ _⟩, trivial⟩, rfl, ⟨rfl, rfl⟩, trivial⟩, h1⟩, ⟨_, rfl⟩, ?_⟩
 rintro _ rfl
 unfold fixR at hq
 refine ⟨fun h => ?_, fun h => ?_⟩
 ·have h : (jp f x d).2 = false := by simpa using h
  have h0 : (jp f x d).1 = [] := zak h
  rw [if_neg (by rw [h]; decide)] at hq
  refine ⟨⟨⟨f, c, day, 0⟩, [], 30⟩, ⟨⟨⟨rfl, rfl⟩, h0, ⟨rfl, rfl⟩, trivial⟩, qk f c day 0, trivial, trivial⟩, ⟨_, rfl⟩, ?_⟩
  rintro _ rfl
  exact RetR.st8 rfl hq rfl rfl
 ·have h : (jp f x d).2 = true := by simpa using h
  rw [if_pos h] at hq
  exact RetR.st8 rfl hq rfl rfl
structure K2 where
 s : St8
 a : List UInt8
 b : List UInt8
def cmpE (e : Int) (a b : List UInt8) : Int × Int := if e ≠ 0 then (0, e) else cmpR a b
def YO : Ctr := ctrT false false (fun k : K2 => [.ptr 0 0, .str k.a, .str k.b]) (fun k => [k.s.box]) (fun k => k.s.e = 0 → k.a.length < 2 ^ 61 ∧ k.b.length < 2 ^ 61) (fun k r => r = cmpE k.s.e k.a k.b) (fun k (r : Int × Int) => (.int .i64 r.1, [(k.s.err r.2).box]))
def GCq : Nat → Option Ctr := fun f => if f = 16 then some (ze6) else if f = 90 then some (zaw) else none
theorem zfc : ∀ g c, GCq g = some c → zc Tryz.prog g c := okIf zct (okIf zaa (okNone))
theorem Kl : zc Tryz.prog 53 YO := by
 refine zN (fn := Tryz.f53) (c := Tryz.f53.body.getD .skip) rfl rfl rfl (fun h => by cases h) fun k hk O w0 σ0 Q hl0 hq => ?_
 obtain ⟨⟨f, c, day, e⟩, a, b⟩ := k
 replace hq := hq _ rfl
 simp only at hk hq
 unfold cmpE at hq
 refine zb.run hmix zfc [] 400 (T := .ite (!decide (e = 0)) (.leaf (.ret [.int .i64 0] [.box [.sl f.length 3 (fxG f), .sl c.length 4 (chG c), .int .i64 day, .int .i64 e]])) (.ex (fun (x : List UInt8 × List UInt8) => eqL [AV.str a, AV.str b] [AV.str x.1, AV.str x.2] ∧ x.1.length < 2305843009213693952 ∧ x.2.length < 2305843009213693952) fun n => .all (fun (r : Int × Int) => r = cmpR n.1 n.2) fun n => .ex (fun (x : St8 × Int × Int) => eqL [AV.ptr 0 0, AV.int .i64 n.1, AV.int .i64 n.2] [AV.ptr 0 0, AV.int .i64 (x.2.1), AV.int .i64 (x.2.2)] ∧ eqH [.box [AV.sl f.length 3 (fxG f), AV.sl c.length 4 (chG c), AV.int .i64 day, AV.int .i64 e]] [.box [AV.sl x.1.f.length 3 (fxG x.1.f), AV.sl x.1.c.length 4 (chG x.1.c), AV.int .i64 x.1.day, AV.int .i64 x.1.e]] ∧ 1 = 1 ∧ True) fun n => .all (fun (r : Int) => r = if St8.e n.1 = 0 then n.2.2 else St8.e n.1) fun n_1 => .leaf (.ret [.int .i64 (n.2.1)] [.box [.sl (List.length (St8.f (n.1.err n_1))) 3 (fxG (St8.f (n.1.err n_1))), .sl (List.length (St8.c (n.1.err n_1))) 4 (chG (St8.c (n.1.err n_1))), .int .i64 (St8.day (n.1.err n_1)), .int .i64 (St8.e (n.1.err n_1))]]))) (by kernel_rfl) ?_
 simp only [Tree.holds, zd]
 refine ⟨fun h => ?_, fun h => ?_⟩
 ·have h : e ≠ 0 := by simpa using h
  rw [if_pos h] at hq
  exact RetR.st8 rfl hq rfl rfl
 ·have h : e = 0 := by simpa using h
  subst h
  obtain ⟨h1, h2⟩ := hk rfl
  rw [if_neg (by simp)] at hq
  refine ⟨(a, b), ⟨⟨rfl, rfl, trivial⟩, h1, h2⟩, ⟨_, rfl⟩, ?_⟩
  rintro _ rfl
  refine ⟨(⟨f, c, day, 0⟩, (cmpR a b).1, (cmpR a b).2), ⟨⟨⟨rfl, rfl⟩, ⟨rfl, rfl⟩, ⟨rfl, rfl⟩, trivial⟩, qk f c day 0, trivial, trivial⟩, ⟨_, rfl⟩, ?_⟩
  rintro _ rfl
  exact RetR.st8 rfl hq rfl rfl
def sopC (F : List UInt8 → List UInt8 → List UInt8 × Int) (same : Bool) : Ctr := ctrT false false (fun k : K2 => [.ptr 0 0, .str k.a, .str k.b]) (fun k => [k.s.box]) (fun k => k.s.e = 0 ∧ k.a.length < 2 ^ 61 ∧ k.b.length < 2 ^ 61) (fun k r => r.2 = (F k.a k.b).2 ∧ (r.2 = 0 → r.1 = (F k.a k.b).1)) (fun k (r : List UInt8 × Int) => (.tup [.str r.1, .int .i64 r.2], [(bif same then k.s else k.s.err r.2).box]))
def zgk : Nat → Option Ctr := fun f => if f = 17 then some (KI) else if f = 18 then some (Kz) else if f = 19 then some (Kj) else none
theorem UM : ∀ g c, zgk g = some c → zc Tryz.prog g c := okIf QI (okIf QJ (okIf QK (okNone)))
theorem zc2 : zc Tryz.prog 167 (sopC addR true) := by
 refine zN (fn := Tryz.f167) (c := Tryz.f167.body.getD .skip) rfl rfl rfl (fun h => by cases h) fun k hk O w0 σ0 Q hl0 hq => ?_
 obtain ⟨⟨f, c, day, e⟩, a, b⟩ := k
 replace hq := hq (addR a b) ⟨rfl, fun _ => rfl⟩
 obtain ⟨h0, h1, h2⟩ := hk
 simp only at h0 h1 h2 hq
 refine zb.run hmix UM [] 400 (T := .ex (fun (x : List UInt8 × List UInt8) => eqL [AV.str a, AV.str b] [AV.str x.1, AV.str x.2] ∧ x.1.length < 2305843009213693952 ∧ x.2.length < 2305843009213693952) fun n => .all (fun (r : List UInt8 × Int) => r = addR n.1 n.2) fun n => .leaf (.ret [.str n.1, .int .i64 n.2] [.box [.sl f.length 3 (fxG f), .sl c.length 4 (chG c), .int .i64 day, .int .i64 e]])) (by kernel_rfl) ?_
 simp only [Tree.holds, zd]
 refine ⟨(a, b), ⟨⟨rfl, rfl, trivial⟩, h1, h2⟩, ⟨_, rfl⟩, ?_⟩
 rintro _ rfl
 exact RetR.st8 rfl hq rfl rfl
def zgc : Nat → Option Ctr := fun f => if f = 17 then some (KI) else if f = 18 then some (Kz) else if f = 19 then some (Kj) else none
theorem Uj : ∀ g c, zgc g = some c → zc Tryz.prog g c := okIf QI (okIf QJ (okIf QK (okNone)))
theorem zcm : zc Tryz.prog 168 (sopC subR true) := by
 refine zN (fn := Tryz.f168) (c := Tryz.f168.body.getD .skip) rfl rfl rfl (fun h => by cases h) fun k hk O w0 σ0 Q hl0 hq => ?_
 obtain ⟨⟨f, c, day, e⟩, a, b⟩ := k
 replace hq := hq (subR a b) ⟨rfl, fun _ => rfl⟩
 obtain ⟨h0, h1, h2⟩ := hk
 simp only at h0 h1 h2 hq
 refine zb.run hmix Uj [] 400 (T := .ex (fun (x : List UInt8 × List UInt8) => eqL [AV.str a, AV.str b] [AV.str x.1, AV.str x.2] ∧ x.1.length < 2305843009213693952 ∧ x.2.length < 2305843009213693952) fun n => .all (fun (r : List UInt8 × Int) => r = subR n.1 n.2) fun n => .leaf (.ret [.str n.1, .int .i64 n.2] [.box [.sl f.length 3 (fxG f), .sl c.length 4 (chG c), .int .i64 day, .int .i64 e]])) (by kernel_rfl) ?_
 simp only [Tree.holds, zd]
 refine ⟨(a, b), ⟨⟨rfl, rfl, trivial⟩, h1, h2⟩, ⟨_, rfl⟩, ?_⟩
 rintro _ rfl
 exact RetR.st8 rfl hq rfl rfl
def zgd : Nat → Option Ctr := fun f => if f = 17 then some (KI) else if f = 18 then some (Kz) else if f = 19 then some (Kj) else none
theorem U4 : ∀ g c, zgd g = some c → zc Tryz.prog g c := okIf QI (okIf QJ (okIf QK (okNone)))
theorem zd0 : zc Tryz.prog 169 (sopC mulR true) := by
 refine zN (fn := Tryz.f169) (c := Tryz.f169.body.getD .skip) rfl rfl rfl (fun h => by cases h) fun k hk O w0 σ0 Q hl0 hq => ?_
 obtain ⟨⟨f, c, day, e⟩, a, b⟩ := k
 replace hq := hq (mulR a b) ⟨rfl, fun _ => rfl⟩
 obtain ⟨h0, h1, h2⟩ := hk
 simp only at h0 h1 h2 hq
 refine zb.run hmix U4 [] 400 (T := .ex (fun (x : List UInt8 × List UInt8) => eqL [AV.str a, AV.str b] [AV.str x.1, AV.str x.2] ∧ x.1.length < 2305843009213693952 ∧ x.2.length < 2305843009213693952) fun n => .all (fun (r : List UInt8 × Int) => r = mulR n.1 n.2) fun n => .leaf (.ret [.str n.1, .int .i64 n.2] [.box [.sl f.length 3 (fxG f), .sl c.length 4 (chG c), .int .i64 day, .int .i64 e]])) (by kernel_rfl) ?_
 simp only [Tree.holds, zd]
 refine ⟨(a, b), ⟨⟨rfl, rfl, trivial⟩, h1, h2⟩, ⟨_, rfl⟩, ?_⟩
 rintro _ rfl
 exact RetR.st8 rfl hq rfl rfl
def GGr : Nat → Option Ctr := fun f => if f = 53 then some (YO) else none
theorem UO : ∀ g c, GGr g = some c → zc Tryz.prog g c := okIf Kl (okNone)
theorem JK : zc Tryz.prog 170 (sopC (jc 7) false) := by
 refine zN (fn := Tryz.f170) (c := Tryz.f170.body.getD .skip) rfl rfl rfl (fun h => by cases h) fun k hk O w0 σ0 Q hl0 hq => ?_
 obtain ⟨⟨f, c, day, e⟩, a, b⟩ := k
 obtain ⟨h0, h1, h2⟩ := hk
 simp only at h0 h1 h2 hq
 subst h0
 refine zb.run hmix UO [] 400 (T := .ex (fun (x : K2) => eqL [AV.ptr 0 0, AV.str a, AV.str b] [AV.ptr 0 0, AV.str x.a, AV.str x.b] ∧ eqH [.box [AV.sl f.length 3 (fxG f), AV.sl c.length 4 (chG c), AV.int .i64 day, AV.int .i64 0]] [.box [AV.sl x.s.f.length 3 (fxG x.s.f), AV.sl x.s.c.length 4 (chG x.s.c), AV.int .i64 x.s.day, AV.int .i64 x.s.e]] ∧ 1 = 1 ∧ (St8.e x.s = 0 → x.a.length < 2305843009213693952 ∧ x.b.length < 2305843009213693952)) fun n => .all (fun (r : Int × Int) => r = cmpE n.s.e n.a n.b) fun n_1 => .ite (decide (n_1.1 < 0)) (.leaf (.ret [.str b, .int .i64 (St8.e (n.s.err n_1.2))] [.box [.sl (List.length (St8.f (n.s.err n_1.2))) 3 (fxG (St8.f (n.s.err n_1.2))), .sl (List.length (St8.c (n.s.err n_1.2))) 4 (chG (St8.c (n.s.err n_1.2))), .int .i64 (St8.day (n.s.err n_1.2)), .int .i64 (St8.e (n.s.err n_1.2))]])) (.leaf (.ret [.str a, .int .i64 (St8.e (n.s.err n_1.2))] [.box [.sl (List.length (St8.f (n.s.err n_1.2))) 3 (fxG (St8.f (n.s.err n_1.2))), .sl (List.length (St8.c (n.s.err n_1.2))) 4 (chG (St8.c (n.s.err n_1.2))), .int .i64 (St8.day (n.s.err n_1.2)), .int .i64 (St8.e (n.s.err n_1.2))]]))) (by kernel_rfl) ?_
 simp only [Tree.holds, zd]
 refine ⟨⟨⟨f, c, day, 0⟩, a, b⟩, ⟨⟨⟨rfl, rfl⟩, rfl, rfl, trivial⟩, qk f c day 0, trivial, fun _ => ⟨h1, h2⟩⟩, ⟨_, rfl⟩, ?_⟩
 have e1 : cmpE 0 a b = cmpR a b := if_neg (by simp)
 rw [e1]
 rintro _ rfl
 unfold jc at hq
 rw [if_pos rfl] at hq
 refine ⟨fun h => ?_, fun h => ?_⟩
 ·have h : (cmpR a b).1 < 0 := of_decide_eq_true h
  refine RetR.st8 rfl (hq (b, (cmpR a b).2) ?_) rfl rfl
  by_cases g : (cmpR a b).2 = 0
  ·rw [if_neg (by rw [g]; simp), if_pos h]; exact ⟨g, fun _ => rfl⟩
  ·rw [if_pos g]; exact ⟨rfl, fun h => absurd h g⟩
 ·have h : ¬ (cmpR a b).1 < 0 := of_decide_eq_false h
  refine RetR.st8 rfl (hq (a, (cmpR a b).2) ?_) rfl rfl
  by_cases g : (cmpR a b).2 = 0
  ·rw [if_neg (by rw [g]; simp), if_neg h]; exact ⟨g, fun _ => rfl⟩
  ·rw [if_pos g]; exact ⟨rfl, fun h => absurd h g⟩
theorem Wv : zc Tryz.prog 171 (sopC (jc 8) false) := by
 refine zN (fn := Tryz.f171) (c := Tryz.f171.body.getD .skip) rfl rfl rfl (fun h => by cases h) fun k hk O w0 σ0 Q hl0 hq => ?_
 obtain ⟨⟨f, c, day, e⟩, a, b⟩ := k
 obtain ⟨h0, h1, h2⟩ := hk
 simp only at h0 h1 h2 hq
 subst h0
 refine zb.run hmix UO [] 400 (T := .ex (fun (x : K2) => eqL [AV.ptr 0 0, AV.str b, AV.str a] [AV.ptr 0 0, AV.str x.a, AV.str x.b] ∧ eqH [.box [AV.sl f.length 3 (fxG f), AV.sl c.length 4 (chG c), AV.int .i64 day, AV.int .i64 0]] [.box [AV.sl x.s.f.length 3 (fxG x.s.f), AV.sl x.s.c.length 4 (chG x.s.c), AV.int .i64 x.s.day, AV.int .i64 x.s.e]] ∧ 1 = 1 ∧ (St8.e x.s = 0 → x.a.length < 2305843009213693952 ∧ x.b.length < 2305843009213693952)) fun n => .all (fun (r : Int × Int) => r = cmpE n.s.e n.a n.b) fun n_1 => .ite (decide (n_1.1 < 0)) (.leaf (.ret [.str b, .int .i64 (St8.e (n.s.err n_1.2))] [.box [.sl (List.length (St8.f (n.s.err n_1.2))) 3 (fxG (St8.f (n.s.err n_1.2))), .sl (List.length (St8.c (n.s.err n_1.2))) 4 (chG (St8.c (n.s.err n_1.2))), .int .i64 (St8.day (n.s.err n_1.2)), .int .i64 (St8.e (n.s.err n_1.2))]])) (.leaf (.ret [.str a, .int .i64 (St8.e (n.s.err n_1.2))] [.box [.sl (List.length (St8.f (n.s.err n_1.2))) 3 (fxG (St8.f (n.s.err n_1.2))), .sl (List.length (St8.c (n.s.err n_1.2))) 4 (chG (St8.c (n.s.err n_1.2))), .int .i64 (St8.day (n.s.err n_1.2)), .int .i64 (St8.e (n.s.err n_1.2))]]))) (by kernel_rfl) ?_
 simp only [Tree.holds, zd]
 refine ⟨⟨⟨f, c, day, 0⟩, b, a⟩, ⟨⟨⟨rfl, rfl⟩, rfl, rfl, trivial⟩, qk f c day 0, trivial, fun _ => ⟨h2, h1⟩⟩, ⟨_, rfl⟩, ?_⟩
 have e1 : cmpE 0 b a = cmpR b a := if_neg (by simp)
 rw [e1]
 rintro _ rfl
 unfold jc at hq
 rw [if_neg (by decide)] at hq
 refine ⟨fun h => ?_, fun h => ?_⟩
 ·have h : (cmpR b a).1 < 0 := of_decide_eq_true h
  refine RetR.st8 rfl (hq (b, (cmpR b a).2) ?_) rfl rfl
  by_cases g : (cmpR b a).2 = 0
  ·rw [if_neg (by rw [g]; simp), if_pos h]; exact ⟨g, fun _ => rfl⟩
  ·rw [if_pos g]; exact ⟨rfl, fun h => absurd h g⟩
 ·have h : ¬ (cmpR b a).1 < 0 := of_decide_eq_false h
  refine RetR.st8 rfl (hq (a, (cmpR b a).2) ?_) rfl rfl
  by_cases g : (cmpR b a).2 = 0
  ·rw [if_neg (by rw [g]; simp), if_neg h]; exact ⟨g, fun _ => rfl⟩
  ·rw [if_pos g]; exact ⟨rfl, fun h => absurd h g⟩
end Go.Proofs.Tryz
end

/- Evaluation: values and truth values. -/
section
set_option maxRecDepth 100000
open Go Go.Sx Go.Proofs Go.Nov
namespace Go.Proofs.Tryz
attribute [local simp] eqKV eqA eqA0 eqH eqB eqL eqL0
noncomputable def K23 : List Go.Sx.Item := [.code (Tryz.f23.body.getD .skip)]
noncomputable def K26 : List Go.Sx.Item := [.code (Tryz.f26.body.getD .skip)]
theorem X1 {X R Y S : Type} {P : Program} {g h : Nat} {fr mo fr' mo' : Bool} {inp : X → List AV} {hin : X → Heap} {pre : X → Prop} {post : X → R → Prop} {out : X → R → AV × Heap} {inp' : Y → List AV} {hin' : Y → Heap} {pre' : Y → Prop} {post' : Y → S → Prop} {out' : Y → S → AV × Heap} (μ : X → Nat) (ν : Y → Nat)
  (step : ∀ n, zc P g (ctrT fr mo inp hin (fun x => μ x < n ∧ pre x) post out) → zc P h (ctrT fr' mo' inp' hin' (fun y => ν y < n ∧ pre' y) post' out') →
   zc P g (ctrT fr mo inp hin (fun x => μ x < n + 1 ∧ pre x) post out) ∧ zc P h (ctrT fr' mo' inp' hin' (fun y => ν y < n + 1 ∧ pre' y) post' out')) :
  zc P g (ctrT fr mo inp hin pre post out) ∧ zc P h (ctrT fr' mo' inp' hin' pre' post' out') := by
 have all : ∀ n, zc P g (ctrT fr mo inp hin (fun x => μ x < n ∧ pre x) post out) ∧ zc P h (ctrT fr' mo' inp' hin' (fun y => ν y < n ∧ pre' y) post' out') := by
  intro n
  induction n with
  | zero =>
   constructor
   ·intro args hc Q hq _
    obtain ⟨x, ⟨_, _, _, h, _⟩, _⟩ := hq
    exact absurd h (Nat.not_lt_zero _)
   ·intro args hc Q hq _
    obtain ⟨x, ⟨_, _, _, h, _⟩, _⟩ := hq
    exact absurd h (Nat.not_lt_zero _)
  | succ n ih => exact step n ih.1 ih.2
 constructor
 ·intro args hc Q hq hf
  obtain ⟨x, ⟨h1, h2, h3, h4⟩, h5⟩ := hq
  exact (all (μ x + 1)).1 args hc Q ⟨x, ⟨h1, h2, h3, Nat.lt_succ_self _, h4⟩, h5⟩ hf
 ·intro args hc Q hq hf
  obtain ⟨x, ⟨h1, h2, h3, h4⟩, h5⟩ := hq
  exact (all (ν x + 1)).2 args hc Q ⟨x, ⟨h1, h2, h3, Nat.lt_succ_self _, h4⟩, h5⟩ hf
structure VX where
 s : St8
 x : Ex
def evA (k : VX) : Ev := k.x.ev k.s.f k.s.day
def valC (p : VX → Prop) : Ctr := ctrT false false (fun k : VX => [.ptr 0 0, k.x.exA]) (fun k => [k.s.box]) p (fun k r => (k.s.e ≠ 0 → r.2 = k.s.e) ∧ (k.s.e = 0 → r.2 = (evA k).e ∧ (r.2 = 0 → r.1 = (evA k).v))) (fun k (r : List UInt8 × Int) => (.str r.1, [(k.s.err r.2).box]))
def hldC (p : VX → Prop) : Ctr := ctrT false false (fun k : VX => [.ptr 0 0, k.x.exA]) (fun k => [k.s.box]) p (fun k r => (k.s.e ≠ 0 → r.2 = k.s.e) ∧ (k.s.e = 0 → r.2 = (evA k).g ∧ (r.2 = 0 → r.1 = (evA k).b))) (fun k (r : Bool × Int) => (.bool r.1, [(k.s.err r.2).box]))
def VPre (z : Int) (k : VX) : Prop := k.s.e = 0 → k.x.z9 = z ∧ k.s.f.all okF = true ∧ k.s.f.length < 2 ^ 40
def GVa (n : Nat) : Nat → Option Ctr := fun f => if f = 23 then some (valC fun k => k.x.size < n ∧ VPre 1 k) else if f = 26 then some (hldC fun k => k.x.size < n ∧ VPre 2 k)
 else if f = 42 then some fixC else if f = 53 then some YO else if f = 43 then some Vp
 else if f = 167 then some (sopC addR true) else if f = 168 then some (sopC subR true) else if f = 169 then some (sopC mulR true) else if f = 170 then some (sopC (jc 7) false) else if f = 171 then some (sopC (jc 8) false) else none
theorem YX {n : Nat} (h1 : zc Tryz.prog 23 (valC fun k => k.x.size < n ∧ VPre 1 k)) (h2 : zc Tryz.prog 26 (hldC fun k => k.x.size < n ∧ VPre 2 k)) : ∀ f c, GVa n f = some c → zc Tryz.prog f c := by
 intro f c hf
 unfold GVa at hf
 iterate 10
  split at hf
  ·rename_i hg; subst hg; cases hf; first | exact h1 | exact h2 | exact XQ | exact Kl | exact W9 | exact zc2 | exact zcm | exact zd0 | exact JK | exact Wv
 cases hf
theorem eqX2 (x : Ex) : eqL [.ptr 0 0, .agg [.int .u8 x.kind, .str x.rat, .str x.name, .int .i64 x.date, .sl x.sub.length 5 x.deep]] [.ptr 0 0, x.exA] := ⟨⟨rfl, rfl⟩, ⟨⟨rfl, rfl⟩, rfl, rfl, ⟨rfl, rfl⟩, ⟨rfl, rfl, Ex.jf _⟩, trivial⟩, trivial⟩
theorem zdo (x : Ex) : eqL [.ptr 0 0, x.exA] [.ptr 0 0, x.exA] := ⟨⟨rfl, rfl⟩, ⟨⟨rfl, rfl⟩, rfl, rfl, ⟨rfl, rfl⟩, ⟨rfl, rfl, za _ _ _⟩, trivial⟩, trivial⟩
theorem RetR.st9 {ctr : Ctr} {Q : AV × Heap → Prop} {rs : List AV} {f : List Fx} {c : List Ch} {day e : Int} {b : Blk} {r : AV} (hf : ctr.fresh = false) (hq : Q (r, [(St8.mk f c day e).box])) (hs : xK r = true) (hr : resV rs = r) (h2 : exp2 [.box [.sl f.length 3 (fxG f), .sl c.length 4 (chG c), .int .i64 day, .int .i64 e], b] [0] r = r := by rfl) : RetR ctr 1 Q rs [.box [.sl f.length 3 (fxG f), .sl c.length 4 (chG c), .int .i64 day, .int .i64 e], b] := by
 subst hr
 refine RetR.keep [0] rfl rfl (by decide) hf hq ?_ ?_ rfl
 ·rw [h2]; exact yI hs
 ·exact qk f c day e
theorem vN (e e0 : Int) (v : List UInt8) : ∃ r : List UInt8 × Int, (e ≠ 0 → r.2 = e) ∧ (e = 0 → r.2 = e0 ∧ (r.2 = 0 → r.1 = v)) := by
 by_cases h : e = 0
 ·exact ⟨(v, e0), fun g => absurd h g, fun _ => ⟨rfl, fun _ => rfl⟩⟩
 ·exact ⟨(v, e), fun _ => rfl, fun g => absurd g h⟩
theorem yN (e e0 : Int) (v : Bool) : ∃ r : Bool × Int, (e ≠ 0 → r.2 = e) ∧ (e = 0 → r.2 = e0 ∧ (r.2 = 0 → r.1 = v)) := by
 by_cases h : e = 0
 ·exact ⟨(v, e0), fun g => absurd h g, fun _ => ⟨rfl, fun _ => rfl⟩⟩
 ·exact ⟨(v, e), fun _ => rfl, fun g => absurd g h⟩
section
variable (n : Nat) (h1 : zc Tryz.prog 23 (valC fun k => k.x.size < n ∧ VPre 1 k)) (h2 : zc Tryz.prog 26 (hldC fun k => k.x.size < n ∧ VPre 2 k))
include h1 h2
theorem V9 : zc Tryz.prog 23 (valC fun k => k.x.size < n + 1 ∧ VPre 1 k) := by
 refine zN (fn := Tryz.f23) (c := Tryz.f23.body.getD .skip) rfl rfl rfl (fun h => by cases h) fun k hk O w0 σ0 Q hl0 hq => ?_
 obtain ⟨⟨f, c, day, e⟩, ⟨k, r, m, d, s⟩⟩ := k
 obtain ⟨hn, hv⟩ := hk
 simp only at hn hv hq
 refine zb.run hmix (YX h1 h2) [] 400 (T := .ite (!decide (e = 0)) (.leaf (.ret [.str (Array.toList #[])] [.box [.sl f.length 3 (fxG f), .sl c.length 4 (chG c), .int .i64 day, .int .i64 e], .box [.int .u8 k, .str r, .str m, .int .i64 d, .sl s.length 5 (Ex.exG s)]])) (.ite (decide (k = 1)) (.leaf (.ret [.str r] [.box [.sl f.length 3 (fxG f), .sl c.length 4 (chG c), .int .i64 day, .int .i64 e], .box [.int .u8 k, .str r, .str m, .int .i64 d, .sl s.length 5 (Ex.exG s)]])) (.ite (decide (k = 2)) (.ex (fun (x : KS) => eqL [AV.ptr 0 0, AV.str m, AV.int .i64 d] [AV.ptr 0 0, AV.str x.x, AV.int .i64 x.e] ∧ eqH [.box [AV.sl f.length 3 (fxG f), AV.sl c.length 4 (chG c), AV.int .i64 day, AV.int .i64 e]] [.box [AV.sl x.s.f.length 3 (fxG x.s.f), AV.sl x.s.c.length 4 (chG x.s.c), AV.int .i64 x.s.day, AV.int .i64 x.s.e]] ∧ 1 = 1 ∧ x.s.f.length < 1099511627776 ∧ St8.e x.s = 0) fun n => .all (fun (r : List UInt8 × Int) => r = fixR n.s.f n.x n.e) fun n_1 => .leaf (.ret [.str n_1.1] [.box [.sl (List.length (St8.f (n.s.err n_1.2))) 3 (fxG (St8.f (n.s.err n_1.2))), .sl (List.length (St8.c (n.s.err n_1.2))) 4 (chG (St8.c (n.s.err n_1.2))), .int .i64 (St8.day (n.s.err n_1.2)), .int .i64 (St8.e (n.s.err n_1.2))], .box [.int .u8 k, .str r, .str m, .int .i64 d, .sl s.length 5 (Ex.exG s)]])) (.ite (decide (k = 3)) (.ex (fun (x : KS) => eqL [AV.ptr 0 0, AV.str m, AV.int .i64 day] [AV.ptr 0 0, AV.str x.x, AV.int .i64 x.e] ∧ eqH [.box [AV.sl f.length 3 (fxG f), AV.sl c.length 4 (chG c), AV.int .i64 day, AV.int .i64 e]] [.box [AV.sl x.s.f.length 3 (fxG x.s.f), AV.sl x.s.c.length 4 (chG x.s.c), AV.int .i64 x.s.day, AV.int .i64 x.s.e]] ∧ 1 = 1 ∧ x.s.f.length < 1099511627776 ∧ St8.e x.s = 0) fun n => .all (fun (r : List UInt8 × Int) => r = fixR n.s.f n.x n.e) fun n_1 => .leaf (.ret [.str n_1.1] [.box [.sl (List.length (St8.f (n.s.err n_1.2))) 3 (fxG (St8.f (n.s.err n_1.2))), .sl (List.length (St8.c (n.s.err n_1.2))) 4 (chG (St8.c (n.s.err n_1.2))), .int .i64 (St8.day (n.s.err n_1.2)), .int .i64 (St8.e (n.s.err n_1.2))], .box [.int .u8 k, .str r, .str m, .int .i64 d, .sl s.length 5 (Ex.exG s)]])) (.ite (decide (k = 9)) (.side ((0 : Int) ≤ 0 ∧ (0 : Int) < s.length) (.ex (fun (x : VX) => eqL [AV.ptr 0 0, AV.agg [AV.int .u8 (Ex.kind (s.getD 0 Ex.nil)), AV.str (Ex.rat (s.getD 0 Ex.nil)), AV.str (Ex.name (s.getD 0 Ex.nil)), AV.int .i64 (Ex.date (s.getD 0 Ex.nil)), AV.sl (List.length (Ex.sub (s.getD 0 Ex.nil))) 5 (Ex.deep (s.getD 0 Ex.nil))]] [AV.ptr 0 0, AV.agg [AV.int .u8 x.x.kind, AV.str x.x.rat, AV.str x.x.name, AV.int .i64 x.x.date, AV.sl x.x.sub.length 5 (Ex.exG x.x.sub)]] ∧ eqH [.box [AV.sl f.length 3 (fxG f), AV.sl c.length 4 (chG c), AV.int .i64 day, AV.int .i64 e]] [.box [AV.sl x.s.f.length 3 (fxG x.s.f), AV.sl x.s.c.length 4 (chG x.s.c), AV.int .i64 x.s.day, AV.int .i64 x.s.e]] ∧ 1 = 1 ∧ Ex.size x.x < n ∧ VPre (2 : Int) x) fun n_1 => .all (fun (r : Bool × Int) => (St8.e n_1.s ≠ 0 → r.2 = St8.e n_1.s) ∧ (St8.e n_1.s = 0 → r.2 = Ev.g (evA n_1) ∧ (r.2 = 0 → r.1 = Ev.b (evA n_1)))) fun n_2 => .ite n_2.1 (.side ((0 : Int) ≤ 1 ∧ (1 : Int) < s.length) (.ex (fun (x : VX) => eqL [AV.ptr 0 0, AV.agg [AV.int .u8 (Ex.kind (s.getD 1 Ex.nil)), AV.str (Ex.rat (s.getD 1 Ex.nil)), AV.str (Ex.name (s.getD 1 Ex.nil)), AV.int .i64 (Ex.date (s.getD 1 Ex.nil)), AV.sl (List.length (Ex.sub (s.getD 1 Ex.nil))) 5 (Ex.deep (s.getD 1 Ex.nil))]] [AV.ptr 0 0, AV.agg [AV.int .u8 x.x.kind, AV.str x.x.rat, AV.str x.x.name, AV.int .i64 x.x.date, AV.sl x.x.sub.length 5 (Ex.exG x.x.sub)]] ∧ eqH [.box [AV.sl (List.length (St8.f (n_1.s.err n_2.2))) 3 (fxG (St8.f (n_1.s.err n_2.2))), AV.sl (List.length (St8.c (n_1.s.err n_2.2))) 4 (chG (St8.c (n_1.s.err n_2.2))), AV.int .i64 (St8.day (n_1.s.err n_2.2)), AV.int .i64 (St8.e (n_1.s.err n_2.2))]] [.box [AV.sl x.s.f.length 3 (fxG x.s.f), AV.sl x.s.c.length 4 (chG x.s.c), AV.int .i64 x.s.day, AV.int .i64 x.s.e]] ∧ 1 = 1 ∧ Ex.size x.x < n ∧ VPre (1 : Int) x) fun n => .all (fun (r : List UInt8 × Int) => (St8.e n.s ≠ 0 → r.2 = St8.e n.s) ∧ (St8.e n.s = 0 → r.2 = Ev.e (evA n) ∧ (r.2 = 0 → r.1 = Ev.v (evA n)))) fun n_3 => .leaf (.ret [.str n_3.1] [.box [.sl (List.length (St8.f (n.s.err n_3.2))) 3 (fxG (St8.f (n.s.err n_3.2))), .sl (List.length (St8.c (n.s.err n_3.2))) 4 (chG (St8.c (n.s.err n_3.2))), .int .i64 (St8.day (n.s.err n_3.2)), .int .i64 (St8.e (n.s.err n_3.2))], .box [.int .u8 k, .str r, .str m, .int .i64 d, .sl s.length 5 (Ex.exG s)]]))) (.side ((0 : Int) ≤ 2 ∧ (2 : Int) < s.length) (.ex (fun (x : VX) => eqL [AV.ptr 0 0, AV.agg [AV.int .u8 (Ex.kind (s.getD 2 Ex.nil)), AV.str (Ex.rat (s.getD 2 Ex.nil)), AV.str (Ex.name (s.getD 2 Ex.nil)), AV.int .i64 (Ex.date (s.getD 2 Ex.nil)), AV.sl (List.length (Ex.sub (s.getD 2 Ex.nil))) 5 (Ex.deep (s.getD 2 Ex.nil))]] [AV.ptr 0 0, AV.agg [AV.int .u8 x.x.kind, AV.str x.x.rat, AV.str x.x.name, AV.int .i64 x.x.date, AV.sl x.x.sub.length 5 (Ex.exG x.x.sub)]] ∧ eqH [.box [AV.sl (List.length (St8.f (n_1.s.err n_2.2))) 3 (fxG (St8.f (n_1.s.err n_2.2))), AV.sl (List.length (St8.c (n_1.s.err n_2.2))) 4 (chG (St8.c (n_1.s.err n_2.2))), AV.int .i64 (St8.day (n_1.s.err n_2.2)), AV.int .i64 (St8.e (n_1.s.err n_2.2))]] [.box [AV.sl x.s.f.length 3 (fxG x.s.f), AV.sl x.s.c.length 4 (chG x.s.c), AV.int .i64 x.s.day, AV.int .i64 x.s.e]] ∧ 1 = 1 ∧ Ex.size x.x < n ∧ VPre (1 : Int) x) fun n => .all (fun (r : List UInt8 × Int) => (St8.e n.s ≠ 0 → r.2 = St8.e n.s) ∧ (St8.e n.s = 0 → r.2 = Ev.e (evA n) ∧ (r.2 = 0 → r.1 = Ev.v (evA n)))) fun n_3 => .leaf (.ret [.str n_3.1] [.box [.sl (List.length (St8.f (n.s.err n_3.2))) 3 (fxG (St8.f (n.s.err n_3.2))), .sl (List.length (St8.c (n.s.err n_3.2))) 4 (chG (St8.c (n.s.err n_3.2))), .int .i64 (St8.day (n.s.err n_3.2)), .int .i64 (St8.e (n.s.err n_3.2))], .box [.int .u8 k, .str r, .str m, .int .i64 d, .sl s.length 5 (Ex.exG s)]]))))) (.side ((0 : Int) ≤ 0 ∧ (0 : Int) < s.length) (.ex (fun (x : VX) => eqL [AV.ptr 0 0, AV.agg [AV.int .u8 (Ex.kind (s.getD 0 Ex.nil)), AV.str (Ex.rat (s.getD 0 Ex.nil)), AV.str (Ex.name (s.getD 0 Ex.nil)), AV.int .i64 (Ex.date (s.getD 0 Ex.nil)), AV.sl (List.length (Ex.sub (s.getD 0 Ex.nil))) 5 (Ex.deep (s.getD 0 Ex.nil))]] [AV.ptr 0 0, AV.agg [AV.int .u8 x.x.kind, AV.str x.x.rat, AV.str x.x.name, AV.int .i64 x.x.date, AV.sl x.x.sub.length 5 (Ex.exG x.x.sub)]] ∧ eqH [.box [AV.sl f.length 3 (fxG f), AV.sl c.length 4 (chG c), AV.int .i64 day, AV.int .i64 e]] [.box [AV.sl x.s.f.length 3 (fxG x.s.f), AV.sl x.s.c.length 4 (chG x.s.c), AV.int .i64 x.s.day, AV.int .i64 x.s.e]] ∧ 1 = 1 ∧ Ex.size x.x < n ∧ VPre (1 : Int) x) fun n_1 => .all (fun (r : List UInt8 × Int) => (St8.e n_1.s ≠ 0 → r.2 = St8.e n_1.s) ∧ (St8.e n_1.s = 0 → r.2 = Ev.e (evA n_1) ∧ (r.2 = 0 → r.1 = Ev.v (evA n_1)))) fun n_2 => .side ((0 : Int) ≤ 1 ∧ (1 : Int) < s.length) (.ex (fun (x : VX) => eqL [AV.ptr 0 0, AV.agg [AV.int .u8 (Ex.kind (s.getD 1 Ex.nil)), AV.str (Ex.rat (s.getD 1 Ex.nil)), AV.str (Ex.name (s.getD 1 Ex.nil)), AV.int .i64 (Ex.date (s.getD 1 Ex.nil)), AV.sl (List.length (Ex.sub (s.getD 1 Ex.nil))) 5 (Ex.deep (s.getD 1 Ex.nil))]] [AV.ptr 0 0, AV.agg [AV.int .u8 x.x.kind, AV.str x.x.rat, AV.str x.x.name, AV.int .i64 x.x.date, AV.sl x.x.sub.length 5 (Ex.exG x.x.sub)]] ∧ eqH [.box [AV.sl (List.length (St8.f (n_1.s.err n_2.2))) 3 (fxG (St8.f (n_1.s.err n_2.2))), AV.sl (List.length (St8.c (n_1.s.err n_2.2))) 4 (chG (St8.c (n_1.s.err n_2.2))), AV.int .i64 (St8.day (n_1.s.err n_2.2)), AV.int .i64 (St8.e (n_1.s.err n_2.2))]] [.box [AV.sl x.s.f.length 3 (fxG x.s.f), AV.sl x.s.c.length 4 (chG x.s.c), AV.int .i64 x.s.day, AV.int .i64 x.s.e]] ∧ 1 = 1 ∧ Ex.size x.x < n ∧ VPre (1 : Int) x) fun n => .all (fun (r : List UInt8 × Int) => (St8.e n.s ≠ 0 → r.2 = St8.e n.s) ∧ (St8.e n.s = 0 → r.2 = Ev.e (evA n) ∧ (r.2 = 0 → r.1 = Ev.v (evA n)))) fun n_3 => .ite (!decide (St8.e (n.s.err n_3.2) = (0 : Int))) (.leaf (.ret [.str (Array.toList #[])] [.box [.sl (List.length (St8.f (n.s.err n_3.2))) 3 (fxG (St8.f (n.s.err n_3.2))), .sl (List.length (St8.c (n.s.err n_3.2))) 4 (chG (St8.c (n.s.err n_3.2))), .int .i64 (St8.day (n.s.err n_3.2)), .int .i64 (St8.e (n.s.err n_3.2))], .box [.int .u8 k, .str r, .str m, .int .i64 d, .sl s.length 5 (Ex.exG s)]])) (.ite (decide ((4 : Int) ≤ k ∧ k ≤ 8)) (.ite (decide (k = 4)) (.ex (fun (x : K2) => eqL [AV.ptr 0 0, AV.str n_2.1, AV.str n_3.1] [AV.ptr 0 0, AV.str x.a, AV.str x.b] ∧ eqH [.box [AV.sl (List.length (St8.f (n.s.err n_3.2))) 3 (fxG (St8.f (n.s.err n_3.2))), AV.sl (List.length (St8.c (n.s.err n_3.2))) 4 (chG (St8.c (n.s.err n_3.2))), AV.int .i64 (St8.day (n.s.err n_3.2)), AV.int .i64 (St8.e (n.s.err n_3.2))]] [.box [AV.sl x.s.f.length 3 (fxG x.s.f), AV.sl x.s.c.length 4 (chG x.s.c), AV.int .i64 x.s.day, AV.int .i64 x.s.e]] ∧ 1 = 1 ∧ St8.e x.s = 0 ∧ x.a.length < 2305843009213693952 ∧ x.b.length < 2305843009213693952) fun n => .all (fun (r : List UInt8 × Int) => r.2 = Prod.snd (addR n.a n.b) ∧ (r.2 = 0 → r.1 = Prod.fst (addR n.a n.b))) fun n_4 => .ex (fun (x : KS) => eqL [AV.ptr 0 0, AV.str n_4.1, AV.int .i64 n_4.2] [AV.ptr 0 0, AV.str x.x, AV.int .i64 x.e] ∧ eqH [.box [AV.sl (List.length (St8.f (bif true then K2.s n else St8.err n.s n_4.2))) 3 (fxG (St8.f (bif true then K2.s n else St8.err n.s n_4.2))), AV.sl (List.length (St8.c (bif true then K2.s n else St8.err n.s n_4.2))) 4 (chG (St8.c (bif true then K2.s n else St8.err n.s n_4.2))), AV.int .i64 (St8.day (bif true then K2.s n else St8.err n.s n_4.2)), AV.int .i64 (St8.e (bif true then K2.s n else St8.err n.s n_4.2))]] [.box [AV.sl x.s.f.length 3 (fxG x.s.f), AV.sl x.s.c.length 4 (chG x.s.c), AV.int .i64 x.s.day, AV.int .i64 x.s.e]] ∧ 1 = 1 ∧ True) fun n => .all (fun (r : Int) => r = if St8.e n.s = 0 then KS.e n else St8.e n.s) fun n_5 => .leaf (.ret [.str n.x] [.box [.sl (List.length (St8.f (n.s.err n_5))) 3 (fxG (St8.f (n.s.err n_5))), .sl (List.length (St8.c (n.s.err n_5))) 4 (chG (St8.c (n.s.err n_5))), .int .i64 (St8.day (n.s.err n_5)), .int .i64 (St8.e (n.s.err n_5))], .box [.int .u8 k, .str r, .str m, .int .i64 d, .sl s.length 5 (Ex.exG s)]])) (.ite (decide (k = 5)) (.ex (fun (x : K2) => eqL [AV.ptr 0 0, AV.str n_2.1, AV.str n_3.1] [AV.ptr 0 0, AV.str x.a, AV.str x.b] ∧ eqH [.box [AV.sl (List.length (St8.f (n.s.err n_3.2))) 3 (fxG (St8.f (n.s.err n_3.2))), AV.sl (List.length (St8.c (n.s.err n_3.2))) 4 (chG (St8.c (n.s.err n_3.2))), AV.int .i64 (St8.day (n.s.err n_3.2)), AV.int .i64 (St8.e (n.s.err n_3.2))]] [.box [AV.sl x.s.f.length 3 (fxG x.s.f), AV.sl x.s.c.length 4 (chG x.s.c), AV.int .i64 x.s.day, AV.int .i64 x.s.e]] ∧ 1 = 1 ∧ St8.e x.s = 0 ∧ x.a.length < 2305843009213693952 ∧ x.b.length < 2305843009213693952) fun n => .all (fun (r : List UInt8 × Int) => r.2 = Prod.snd (subR n.a n.b) ∧ (r.2 = 0 → r.1 = Prod.fst (subR n.a n.b))) fun n_4 => .ex (fun (x : KS) => eqL [AV.ptr 0 0, AV.str n_4.1, AV.int .i64 n_4.2] [AV.ptr 0 0, AV.str x.x, AV.int .i64 x.e] ∧ eqH [.box [AV.sl (List.length (St8.f (bif true then K2.s n else St8.err n.s n_4.2))) 3 (fxG (St8.f (bif true then K2.s n else St8.err n.s n_4.2))), AV.sl (List.length (St8.c (bif true then K2.s n else St8.err n.s n_4.2))) 4 (chG (St8.c (bif true then K2.s n else St8.err n.s n_4.2))), AV.int .i64 (St8.day (bif true then K2.s n else St8.err n.s n_4.2)), AV.int .i64 (St8.e (bif true then K2.s n else St8.err n.s n_4.2))]] [.box [AV.sl x.s.f.length 3 (fxG x.s.f), AV.sl x.s.c.length 4 (chG x.s.c), AV.int .i64 x.s.day, AV.int .i64 x.s.e]] ∧ 1 = 1 ∧ True) fun n => .all (fun (r : Int) => r = if St8.e n.s = 0 then KS.e n else St8.e n.s) fun n_5 => .leaf (.ret [.str n.x] [.box [.sl (List.length (St8.f (n.s.err n_5))) 3 (fxG (St8.f (n.s.err n_5))), .sl (List.length (St8.c (n.s.err n_5))) 4 (chG (St8.c (n.s.err n_5))), .int .i64 (St8.day (n.s.err n_5)), .int .i64 (St8.e (n.s.err n_5))], .box [.int .u8 k, .str r, .str m, .int .i64 d, .sl s.length 5 (Ex.exG s)]])) (.ite (decide (k = 6)) (.ex (fun (x : K2) => eqL [AV.ptr 0 0, AV.str n_2.1, AV.str n_3.1] [AV.ptr 0 0, AV.str x.a, AV.str x.b] ∧ eqH [.box [AV.sl (List.length (St8.f (n.s.err n_3.2))) 3 (fxG (St8.f (n.s.err n_3.2))), AV.sl (List.length (St8.c (n.s.err n_3.2))) 4 (chG (St8.c (n.s.err n_3.2))), AV.int .i64 (St8.day (n.s.err n_3.2)), AV.int .i64 (St8.e (n.s.err n_3.2))]] [.box [AV.sl x.s.f.length 3 (fxG x.s.f), AV.sl x.s.c.length 4 (chG x.s.c), AV.int .i64 x.s.day, AV.int .i64 x.s.e]] ∧ 1 = 1 ∧ St8.e x.s = 0 ∧ x.a.length < 2305843009213693952 ∧ x.b.length < 2305843009213693952) fun n => .all (fun (r : List UInt8 × Int) => r.2 = Prod.snd (mulR n.a n.b) ∧ (r.2 = 0 → r.1 = Prod.fst (mulR n.a n.b))) fun n_4 => .ex (fun (x : KS) => eqL [AV.ptr 0 0, AV.str n_4.1, AV.int .i64 n_4.2] [AV.ptr 0 0, AV.str x.x, AV.int .i64 x.e] ∧ eqH [.box [AV.sl (List.length (St8.f (bif true then K2.s n else St8.err n.s n_4.2))) 3 (fxG (St8.f (bif true then K2.s n else St8.err n.s n_4.2))), AV.sl (List.length (St8.c (bif true then K2.s n else St8.err n.s n_4.2))) 4 (chG (St8.c (bif true then K2.s n else St8.err n.s n_4.2))), AV.int .i64 (St8.day (bif true then K2.s n else St8.err n.s n_4.2)), AV.int .i64 (St8.e (bif true then K2.s n else St8.err n.s n_4.2))]] [.box [AV.sl x.s.f.length 3 (fxG x.s.f), AV.sl x.s.c.length 4 (chG x.s.c), AV.int .i64 x.s.day, AV.int .i64 x.s.e]] ∧ 1 = 1 ∧ True) fun n => .all (fun (r : Int) => r = if St8.e n.s = 0 then KS.e n else St8.e n.s) fun n_5 => .leaf (.ret [.str n.x] [.box [.sl (List.length (St8.f (n.s.err n_5))) 3 (fxG (St8.f (n.s.err n_5))), .sl (List.length (St8.c (n.s.err n_5))) 4 (chG (St8.c (n.s.err n_5))), .int .i64 (St8.day (n.s.err n_5)), .int .i64 (St8.e (n.s.err n_5))], .box [.int .u8 k, .str r, .str m, .int .i64 d, .sl s.length 5 (Ex.exG s)]])) (.ite (decide (k = 7)) (.ex (fun (x : K2) => eqL [AV.ptr 0 0, AV.str n_2.1, AV.str n_3.1] [AV.ptr 0 0, AV.str x.a, AV.str x.b] ∧ eqH [.box [AV.sl (List.length (St8.f (n.s.err n_3.2))) 3 (fxG (St8.f (n.s.err n_3.2))), AV.sl (List.length (St8.c (n.s.err n_3.2))) 4 (chG (St8.c (n.s.err n_3.2))), AV.int .i64 (St8.day (n.s.err n_3.2)), AV.int .i64 (St8.e (n.s.err n_3.2))]] [.box [AV.sl x.s.f.length 3 (fxG x.s.f), AV.sl x.s.c.length 4 (chG x.s.c), AV.int .i64 x.s.day, AV.int .i64 x.s.e]] ∧ 1 = 1 ∧ St8.e x.s = 0 ∧ x.a.length < 2305843009213693952 ∧ x.b.length < 2305843009213693952) fun n => .all (fun (r : List UInt8 × Int) => r.2 = Prod.snd (jc (7 : Int) n.a n.b) ∧ (r.2 = 0 → r.1 = Prod.fst (jc (7 : Int) n.a n.b))) fun n_4 => .ex (fun (x : KS) => eqL [AV.ptr 0 0, AV.str n_4.1, AV.int .i64 n_4.2] [AV.ptr 0 0, AV.str x.x, AV.int .i64 x.e] ∧ eqH [.box [AV.sl (List.length (St8.f (bif false then K2.s n else St8.err n.s n_4.2))) 3 (fxG (St8.f (bif false then K2.s n else St8.err n.s n_4.2))), AV.sl (List.length (St8.c (bif false then K2.s n else St8.err n.s n_4.2))) 4 (chG (St8.c (bif false then K2.s n else St8.err n.s n_4.2))), AV.int .i64 (St8.day (bif false then K2.s n else St8.err n.s n_4.2)), AV.int .i64 (St8.e (bif false then K2.s n else St8.err n.s n_4.2))]] [.box [AV.sl x.s.f.length 3 (fxG x.s.f), AV.sl x.s.c.length 4 (chG x.s.c), AV.int .i64 x.s.day, AV.int .i64 x.s.e]] ∧ 1 = 1 ∧ True) fun n => .all (fun (r : Int) => r = if St8.e n.s = 0 then KS.e n else St8.e n.s) fun n_5 => .leaf (.ret [.str n.x] [.box [.sl (List.length (St8.f (n.s.err n_5))) 3 (fxG (St8.f (n.s.err n_5))), .sl (List.length (St8.c (n.s.err n_5))) 4 (chG (St8.c (n.s.err n_5))), .int .i64 (St8.day (n.s.err n_5)), .int .i64 (St8.e (n.s.err n_5))], .box [.int .u8 k, .str r, .str m, .int .i64 d, .sl s.length 5 (Ex.exG s)]])) (.ite (decide (k = 8)) (.ex (fun (x : K2) => eqL [AV.ptr 0 0, AV.str n_2.1, AV.str n_3.1] [AV.ptr 0 0, AV.str x.a, AV.str x.b] ∧ eqH [.box [AV.sl (List.length (St8.f (n.s.err n_3.2))) 3 (fxG (St8.f (n.s.err n_3.2))), AV.sl (List.length (St8.c (n.s.err n_3.2))) 4 (chG (St8.c (n.s.err n_3.2))), AV.int .i64 (St8.day (n.s.err n_3.2)), AV.int .i64 (St8.e (n.s.err n_3.2))]] [.box [AV.sl x.s.f.length 3 (fxG x.s.f), AV.sl x.s.c.length 4 (chG x.s.c), AV.int .i64 x.s.day, AV.int .i64 x.s.e]] ∧ 1 = 1 ∧ St8.e x.s = 0 ∧ x.a.length < 2305843009213693952 ∧ x.b.length < 2305843009213693952) fun n => .all (fun (r : List UInt8 × Int) => r.2 = Prod.snd (jc (8 : Int) n.a n.b) ∧ (r.2 = 0 → r.1 = Prod.fst (jc (8 : Int) n.a n.b))) fun n_4 => .ex (fun (x : KS) => eqL [AV.ptr 0 0, AV.str n_4.1, AV.int .i64 n_4.2] [AV.ptr 0 0, AV.str x.x, AV.int .i64 x.e] ∧ eqH [.box [AV.sl (List.length (St8.f (bif false then K2.s n else St8.err n.s n_4.2))) 3 (fxG (St8.f (bif false then K2.s n else St8.err n.s n_4.2))), AV.sl (List.length (St8.c (bif false then K2.s n else St8.err n.s n_4.2))) 4 (chG (St8.c (bif false then K2.s n else St8.err n.s n_4.2))), AV.int .i64 (St8.day (bif false then K2.s n else St8.err n.s n_4.2)), AV.int .i64 (St8.e (bif false then K2.s n else St8.err n.s n_4.2))]] [.box [AV.sl x.s.f.length 3 (fxG x.s.f), AV.sl x.s.c.length 4 (chG x.s.c), AV.int .i64 x.s.day, AV.int .i64 x.s.e]] ∧ 1 = 1 ∧ True) fun n => .all (fun (r : Int) => r = if St8.e n.s = 0 then KS.e n else St8.e n.s) fun n_5 => .leaf (.ret [.str n.x] [.box [.sl (List.length (St8.f (n.s.err n_5))) 3 (fxG (St8.f (n.s.err n_5))), .sl (List.length (St8.c (n.s.err n_5))) 4 (chG (St8.c (n.s.err n_5))), .int .i64 (St8.day (n.s.err n_5)), .int .i64 (St8.e (n.s.err n_5))], .box [.int .u8 k, .str r, .str m, .int .i64 d, .sl s.length 5 (Ex.exG s)]])) .fail))))) .fail))))))))) (by kernel_rfl) ?_
 simp only [Tree.holds, zd]
 refine ⟨fun h => ?_, fun h => ?_⟩
 ·have h : e ≠ 0 := by simpa using h
  exact RetR.st9 rfl (hq ([], e) ⟨fun _ => rfl, fun h0 => absurd h0 h⟩) rfl rfl
 have h : e = 0 := by simpa using h
 subst h
 obtain ⟨hs, hf, hfl⟩ := hv rfl
 simp only at hs hf hfl
 have hq0 : ∀ t : List UInt8 × Int, t.2 = ((Ex.mk k r m d s).ev f day).e → (t.2 = 0 → t.1 = ((Ex.mk k r m d s).ev f day).v) → Q (.str t.1, [(St8.mk f c day t.2).box]) := fun t h1 h2 => hq t ⟨fun h => absurd rfl h, fun _ => ⟨h1, h2⟩⟩
 clear hq
 have hev : (Ex.mk k r m d s).ev f day = evN f day k r m d (Ex.evs f day s) := by rw [Ex.ev]
 have hc := Ex.yz hs
 simp only [Ex.kind, Ex.sub, Ex.rat] at hc
 rw [Ex.size] at hn
 have z0 := fun g => Ex.z6 (s := s) (i := 0) g
 have z1 := fun g => Ex.z6 (s := s) (i := 1) g
 have z2 := fun g => Ex.z6 (s := s) (i := 2) g
 have hfix : ∀ (x : List UInt8) (y : Int) (b : Blk), fixR f x y = (((Ex.mk k r m d s).ev f day).v, ((Ex.mk k r m d s).ev f day).e) → ∀ z, z = fixR f x y → RetR (valC fun k => k.x.size < n + 1 ∧ VPre 1 k) 1 Q [.str z.1] [.box [.sl f.length 3 (fxG f), .sl c.length 4 (chG c), .int .i64 day, .int .i64 z.2], b] := by
  rintro x y b h1 z rfl
  exact RetR.st9 rfl (hq0 _ (congrArg Prod.snd h1) fun _ => congrArg Prod.fst h1) rfl rfl
 rcases hc with ⟨rfl, hr⟩ | rfl | rfl | ⟨⟨k1, k2⟩, hl, hs0, hs1⟩ | ⟨rfl, hl, hs0, hs1, hs2⟩
 ·refine ⟨fun _ => ?_, fun h => (by cases h)⟩
  exact RetR.st9 rfl (hq0 (r, 0) (by rw [hev]; rfl) fun _ => by rw [hev]; rfl) rfl rfl
 ·refine ⟨fun h => (by cases h), fun _ => ⟨fun _ => ?_, fun h => (by cases h)⟩⟩
  refine ⟨⟨⟨f, c, day, 0⟩, m, d⟩, ⟨⟨⟨rfl, rfl⟩, rfl, ⟨rfl, rfl⟩, trivial⟩, qk f c day 0, by trivial, hfl, rfl⟩, ⟨_, rfl⟩, ?_⟩
  exact hfix m d _ (by rw [hev]; rfl)
 ·refine ⟨fun h => (by cases h), fun _ => ⟨fun h => (by cases h), fun _ => ⟨fun _ => ?_, fun h => (by cases h)⟩⟩⟩
  refine ⟨⟨⟨f, c, day, 0⟩, m, day⟩, ⟨⟨⟨rfl, rfl⟩, rfl, ⟨rfl, rfl⟩, trivial⟩, qk f c day 0, by trivial, hfl, rfl⟩, ⟨_, rfl⟩, ?_⟩
  exact hfix m day _ (by rw [hev]; rfl)
 ·iterate 4 refine ⟨fun h => absurd (of_decide_eq_true h) (by omega), fun _ => ?_⟩
  have z0 := z0 (by omega)
  have z1 := z1 (by omega)
  have he : (((Ex.mk k r m d s).ev f day).v, ((Ex.mk k r m d s).ev f day).e) = ki [] ((s.getD 0 Ex.nil).ev f day) ((s.getD 1 Ex.nil).ev f day) (opR k) := by
   rw [hev]
   simp only [evN, valN]
   rw [if_neg (by omega), if_neg (by omega), if_neg (by omega), if_neg (by omega), Ex.zA (by omega), Ex.zA (by omega)]
  unfold ki at he
  refine ⟨⟨by decide, by omega⟩, fun _ => ⟨⟨⟨f, c, day, 0⟩, s.getD 0 Ex.nil⟩, ⟨eqX2 _, qk f c day 0, by trivial, by show (s.getD 0 Ex.nil).size < n; omega, fun _ => ⟨hs0, hf, hfl⟩⟩, vN _ _ _, ?_⟩⟩
  intro r0 g0
  obtain ⟨g0, k0⟩ := g0.2 rfl
  simp only [evA] at g0 k0
  refine ⟨⟨by decide, by omega⟩, fun _ => ⟨⟨⟨f, c, day, r0.2⟩, s.getD 1 Ex.nil⟩, ⟨eqX2 _, qk f c day r0.2, by trivial, by show (s.getD 1 Ex.nil).size < n; omega, fun _ => ⟨hs1, hf, hfl⟩⟩, vN _ _ _, ?_⟩⟩
  intro r1 g1
  simp only [evA] at g1
  refine ⟨fun h => ?_, fun h => ?_⟩
  ·have h : r1.2 ≠ 0 := by
    intro h0
    have h' : (!decide (r1.2 = 0)) = true := h
    rw [h0] at h'; cases h'
   refine RetR.st9 rfl (hq0 ([], r1.2) ?_ fun h0 => absurd h0 h) rfl rfl
   have he := congrArg Prod.snd he
   simp only at he ⊢
   rw [he]
   by_cases h3 : r0.2 = 0
   ·obtain ⟨q1, _⟩ := g1.2 h3
    rw [if_neg (by rw [← g0]; simpa using h3), if_pos (by rw [← q1]; exact h), q1]
   ·rw [if_pos (by rw [← g0]; exact h3), g1.1 h3, g0]
  ·have h : r1.2 = 0 := by
    have h' : (!decide (r1.2 = 0)) = false := h
    simpa using h'
   have h3 : r0.2 = 0 := by
    refine Decidable.byContradiction fun h3 => ?_
    exact h3 (by rw [← g1.1 h3]; exact h)
   obtain ⟨q1, k1'⟩ := g1.2 h3
   have k0 := k0 h3
   have k1' := k1' h
   rw [if_neg (by rw [← g0]; simpa using h3), if_neg (by rw [← q1]; simpa using h), ← k0, ← k1'] at he
   have l0 := jO (by rw [k0]; exact Ex.vX hf day _ hs0 (by rw [← g0]; exact h3) : errR r0.1 = 0)
   have l1 := jO (by rw [k1']; exact Ex.vX hf day _ hs1 (by rw [← q1]; exact h) : errR r1.1 = 0)
   refine ⟨fun _ => ?_, fun hno => absurd (of_decide_eq_false hno) (by simp only [Classical.not_not]; exact ⟨k1, k2⟩)⟩
   refine ⟨fun hk => ?_, fun hk => ?_⟩
   ·have hk : k = 4 := of_decide_eq_true hk
    subst hk
    have ho : opR 4 r0.1 r1.1 = addR r0.1 r1.1 := rfl
    rw [ho] at he
    refine ⟨⟨⟨f, c, day, 0⟩, r0.1, r1.1⟩, ⟨⟨⟨rfl, rfl⟩, rfl, rfl, trivial⟩, ⟨⟨⟨rfl, rfl, za _ _ _⟩, ⟨rfl, rfl, za _ _ _⟩, ⟨rfl, rfl⟩, ⟨rfl, h⟩, trivial⟩, trivial⟩, by trivial, rfl, by show r0.1.length < _; omega, by show r1.1.length < _; omega⟩, ⟨addR r0.1 r1.1, rfl, fun _ => rfl⟩, ?_⟩
    intro t ht
    obtain ⟨t1, t2⟩ := ht
    simp only at t1 t2
    refine ⟨⟨⟨f, c, day, 0⟩, t.1, t.2⟩, ⟨⟨⟨rfl, rfl⟩, rfl, ⟨rfl, rfl⟩, trivial⟩, qk f c day _, by trivial, trivial⟩, ⟨_, rfl⟩, ?_⟩
    intro z hz
    have hz : z = t.2 := by
     rw [hz]
     show (if 0 = (0 : Int) then t.2 else 0) = t.2
     by_cases g : t.2 = 0 <;> simp [g]
    subst hz
    exact RetR.st9 rfl (hq0 t (by rw [t1]; exact (congrArg Prod.snd he).symm) fun g => by rw [t2 g]; exact (congrArg Prod.fst he).symm) rfl rfl
   have hk : ¬ k = 4 := of_decide_eq_false hk
   refine ⟨fun hk => ?_, fun hk => ?_⟩
   ·have hk : k = 5 := of_decide_eq_true hk
    subst hk
    have ho : opR 5 r0.1 r1.1 = subR r0.1 r1.1 := rfl
    rw [ho] at he
    refine ⟨⟨⟨f, c, day, 0⟩, r0.1, r1.1⟩, ⟨⟨⟨rfl, rfl⟩, rfl, rfl, trivial⟩, ⟨⟨⟨rfl, rfl, za _ _ _⟩, ⟨rfl, rfl, za _ _ _⟩, ⟨rfl, rfl⟩, ⟨rfl, h⟩, trivial⟩, trivial⟩, by trivial, rfl, by show r0.1.length < _; omega, by show r1.1.length < _; omega⟩, ⟨subR r0.1 r1.1, rfl, fun _ => rfl⟩, ?_⟩
    intro t ht
    obtain ⟨t1, t2⟩ := ht
    simp only at t1 t2
    refine ⟨⟨⟨f, c, day, 0⟩, t.1, t.2⟩, ⟨⟨⟨rfl, rfl⟩, rfl, ⟨rfl, rfl⟩, trivial⟩, qk f c day _, by trivial, trivial⟩, ⟨_, rfl⟩, ?_⟩
    intro z hz
    have hz : z = t.2 := by
     rw [hz]
     show (if 0 = (0 : Int) then t.2 else 0) = t.2
     by_cases g : t.2 = 0 <;> simp [g]
    subst hz
    exact RetR.st9 rfl (hq0 t (by rw [t1]; exact (congrArg Prod.snd he).symm) fun g => by rw [t2 g]; exact (congrArg Prod.fst he).symm) rfl rfl
   have hk : ¬ k = 5 := of_decide_eq_false hk
   refine ⟨fun hk => ?_, fun hk => ?_⟩
   ·have hk : k = 6 := of_decide_eq_true hk
    subst hk
    have ho : opR 6 r0.1 r1.1 = mulR r0.1 r1.1 := rfl
    rw [ho] at he
    refine ⟨⟨⟨f, c, day, 0⟩, r0.1, r1.1⟩, ⟨⟨⟨rfl, rfl⟩, rfl, rfl, trivial⟩, ⟨⟨⟨rfl, rfl, za _ _ _⟩, ⟨rfl, rfl, za _ _ _⟩, ⟨rfl, rfl⟩, ⟨rfl, h⟩, trivial⟩, trivial⟩, by trivial, rfl, by show r0.1.length < _; omega, by show r1.1.length < _; omega⟩, ⟨mulR r0.1 r1.1, rfl, fun _ => rfl⟩, ?_⟩
    intro t ht
    obtain ⟨t1, t2⟩ := ht
    simp only at t1 t2
    refine ⟨⟨⟨f, c, day, 0⟩, t.1, t.2⟩, ⟨⟨⟨rfl, rfl⟩, rfl, ⟨rfl, rfl⟩, trivial⟩, qk f c day _, by trivial, trivial⟩, ⟨_, rfl⟩, ?_⟩
    intro z hz
    have hz : z = t.2 := by
     rw [hz]
     show (if 0 = (0 : Int) then t.2 else 0) = t.2
     by_cases g : t.2 = 0 <;> simp [g]
    subst hz
    exact RetR.st9 rfl (hq0 t (by rw [t1]; exact (congrArg Prod.snd he).symm) fun g => by rw [t2 g]; exact (congrArg Prod.fst he).symm) rfl rfl
   have hk : ¬ k = 6 := of_decide_eq_false hk
   refine ⟨fun hk => ?_, fun hk => ?_⟩
   ·have hk : k = 7 := of_decide_eq_true hk
    subst hk
    have ho : opR 7 r0.1 r1.1 = (jc 7) r0.1 r1.1 := rfl
    rw [ho] at he
    refine ⟨⟨⟨f, c, day, 0⟩, r0.1, r1.1⟩, ⟨⟨⟨rfl, rfl⟩, rfl, rfl, trivial⟩, ⟨⟨⟨rfl, rfl, za _ _ _⟩, ⟨rfl, rfl, za _ _ _⟩, ⟨rfl, rfl⟩, ⟨rfl, h⟩, trivial⟩, trivial⟩, by trivial, rfl, by show r0.1.length < _; omega, by show r1.1.length < _; omega⟩, ⟨(jc 7) r0.1 r1.1, rfl, fun _ => rfl⟩, ?_⟩
    intro t ht
    obtain ⟨t1, t2⟩ := ht
    simp only at t1 t2
    refine ⟨⟨⟨f, c, day, t.2⟩, t.1, t.2⟩, ⟨⟨⟨rfl, rfl⟩, rfl, ⟨rfl, rfl⟩, trivial⟩, qk f c day _, by trivial, trivial⟩, ⟨_, rfl⟩, ?_⟩
    intro z hz
    have hz : z = t.2 := by
     rw [hz]
     show (if t.2 = (0 : Int) then t.2 else t.2) = t.2
     by_cases g : t.2 = 0 <;> simp [g]
    subst hz
    exact RetR.st9 rfl (hq0 t (by rw [t1]; exact (congrArg Prod.snd he).symm) fun g => by rw [t2 g]; exact (congrArg Prod.fst he).symm) rfl rfl
   have hk : ¬ k = 7 := of_decide_eq_false hk
   refine ⟨fun hk => ?_, fun hk => ?_⟩
   ·have hk : k = 8 := of_decide_eq_true hk
    subst hk
    have ho : opR 8 r0.1 r1.1 = (jc 8) r0.1 r1.1 := rfl
    rw [ho] at he
    refine ⟨⟨⟨f, c, day, 0⟩, r0.1, r1.1⟩, ⟨⟨⟨rfl, rfl⟩, rfl, rfl, trivial⟩, ⟨⟨⟨rfl, rfl, za _ _ _⟩, ⟨rfl, rfl, za _ _ _⟩, ⟨rfl, rfl⟩, ⟨rfl, h⟩, trivial⟩, trivial⟩, by trivial, rfl, by show r0.1.length < _; omega, by show r1.1.length < _; omega⟩, ⟨(jc 8) r0.1 r1.1, rfl, fun _ => rfl⟩, ?_⟩
    intro t ht
    obtain ⟨t1, t2⟩ := ht
    simp only at t1 t2
    refine ⟨⟨⟨f, c, day, t.2⟩, t.1, t.2⟩, ⟨⟨⟨rfl, rfl⟩, rfl, ⟨rfl, rfl⟩, trivial⟩, qk f c day _, by trivial, trivial⟩, ⟨_, rfl⟩, ?_⟩
    intro z hz
    have hz : z = t.2 := by
     rw [hz]
     show (if t.2 = (0 : Int) then t.2 else t.2) = t.2
     by_cases g : t.2 = 0 <;> simp [g]
    subst hz
    exact RetR.st9 rfl (hq0 t (by rw [t1]; exact (congrArg Prod.snd he).symm) fun g => by rw [t2 g]; exact (congrArg Prod.fst he).symm) rfl rfl
   have hk : ¬ k = 8 := of_decide_eq_false hk
   omega
 ·iterate 3 refine ⟨fun h => (by cases h), fun _ => ?_⟩
  refine ⟨fun _ => ?_, fun h => (by cases h)⟩
  have z0 := z0 (by omega)
  have z1 := z1 (by omega)
  have z2 := z2 (by omega)
  have he : (((Ex.mk 9 r m d s).ev f day).v, ((Ex.mk 9 r m d s).ev f day).e) = if ((s.getD 0 Ex.nil).ev f day).g ≠ 0 then ([], ((s.getD 0 Ex.nil).ev f day).g) else if ((s.getD 0 Ex.nil).ev f day).b then (((s.getD 1 Ex.nil).ev f day).v, ((s.getD 1 Ex.nil).ev f day).e) else (((s.getD 2 Ex.nil).ev f day).v, ((s.getD 2 Ex.nil).ev f day).e) := by
   rw [hev]
   simp only [evN, valN]
   rw [if_neg (by decide), if_neg (by decide), if_neg (by decide), if_pos trivial, Ex.zA (by omega), Ex.zA (by omega), Ex.zA (by omega)]
  refine ⟨⟨by decide, by omega⟩, fun _ => ⟨⟨⟨f, c, day, 0⟩, s.getD 0 Ex.nil⟩, ⟨eqX2 _, qk f c day 0, by trivial, by show (s.getD 0 Ex.nil).size < n; omega, fun _ => ⟨hs0, hf, hfl⟩⟩, yN _ _ _, ?_⟩⟩
  intro r0 g0
  obtain ⟨g0, k0⟩ := g0.2 rfl
  simp only [evA] at g0 k0
  have fin : ∀ (y : Ex), (r0.2 = 0 → (((Ex.mk 9 r m d s).ev f day).v, ((Ex.mk 9 r m d s).ev f day).e) = ((y.ev f day).v, (y.ev f day).e)) → ∀ (b : Blk) (t : List UInt8 × Int), ((r0.2 ≠ 0 → t.2 = r0.2) ∧ (r0.2 = 0 → t.2 = (y.ev f day).e ∧ (t.2 = 0 → t.1 = (y.ev f day).v))) →
    RetR (valC fun k => k.x.size < n + 1 ∧ VPre 1 k) 1 Q [.str t.1] [.box [.sl f.length 3 (fxG f), .sl c.length 4 (chG c), .int .i64 day, .int .i64 t.2], b] := by
   intro y hy b t ht
   refine RetR.st9 rfl (hq0 t ?_ fun h0 => ?_) rfl rfl
   ·by_cases h3 : r0.2 = 0
    ·rw [(ht.2 h3).1]; exact (congrArg Prod.snd (hy h3)).symm
    ·rw [ht.1 h3, g0]
     rw [if_pos (by rw [← g0]; exact h3)] at he
     exact (congrArg Prod.snd he).symm
   ·have h3 : r0.2 = 0 := by
     refine Decidable.byContradiction fun h3 => ?_
     exact h3 (by rw [← ht.1 h3]; exact h0)
    rw [(ht.2 h3).2 h0]; exact (congrArg Prod.fst (hy h3)).symm
  refine ⟨fun hb => ?_, fun hb => ?_⟩
  ·refine ⟨⟨by decide, by omega⟩, fun _ => ⟨⟨⟨f, c, day, r0.2⟩, s.getD 1 Ex.nil⟩, ⟨eqX2 _, qk f c day r0.2, by trivial, by show (s.getD 1 Ex.nil).size < n; omega, fun _ => ⟨hs1, hf, hfl⟩⟩, vN _ _ _, ?_⟩⟩
   intro t ht
   exact fin _ (fun h3 => by rw [he, if_neg (by rw [← g0]; simpa using h3), if_pos (by rw [← k0 h3]; exact hb)]) _ t ht
  ·refine ⟨⟨by decide, by omega⟩, fun _ => ⟨⟨⟨f, c, day, r0.2⟩, s.getD 2 Ex.nil⟩, ⟨eqX2 _, qk f c day r0.2, by trivial, by show (s.getD 2 Ex.nil).size < n; omega, fun _ => ⟨hs2, hf, hfl⟩⟩, vN _ _ _, ?_⟩⟩
   intro t ht
   exact fin _ (fun h3 => by rw [he, if_neg (by rw [← g0]; simpa using h3), if_neg (by rw [← k0 h3, hb]; decide)]) _ t ht
theorem VM : zc Tryz.prog 26 (hldC fun k => k.x.size < n + 1 ∧ VPre 2 k) := by
 refine zN (fn := Tryz.f26) (c := Tryz.f26.body.getD .skip) rfl rfl rfl (fun h => by cases h) fun k hk O w0 σ0 Q hl0 hq => ?_
 obtain ⟨⟨f, c, day, e⟩, ⟨k, r, m, d, s⟩⟩ := k
 obtain ⟨hn, hv⟩ := hk
 simp only at hn hv hq
 refine zb.run hmix (YX h1 h2) [] 400 (T := .ite (!decide (e = 0)) (.leaf (.ret [.bool false] [.box [.sl f.length 3 (fxG f), .sl c.length 4 (chG c), .int .i64 day, .int .i64 e], .box [.int .u8 k, .str r, .str m, .int .i64 d, .sl s.length 5 (Ex.exG s)]])) (.ite (decide (k = 13)) (.side ((0 : Int) ≤ 0 ∧ (0 : Int) < s.length) (.ex (fun (x : VX) => eqL [AV.ptr 0 0, AV.agg [AV.int .u8 (Ex.kind (s.getD 0 Ex.nil)), AV.str (Ex.rat (s.getD 0 Ex.nil)), AV.str (Ex.name (s.getD 0 Ex.nil)), AV.int .i64 (Ex.date (s.getD 0 Ex.nil)), AV.sl (List.length (Ex.sub (s.getD 0 Ex.nil))) 5 (Ex.deep (s.getD 0 Ex.nil))]] [AV.ptr 0 0, AV.agg [AV.int .u8 x.x.kind, AV.str x.x.rat, AV.str x.x.name, AV.int .i64 x.x.date, AV.sl x.x.sub.length 5 (Ex.exG x.x.sub)]] ∧ eqH [.box [AV.sl f.length 3 (fxG f), AV.sl c.length 4 (chG c), AV.int .i64 day, AV.int .i64 e]] [.box [AV.sl x.s.f.length 3 (fxG x.s.f), AV.sl x.s.c.length 4 (chG x.s.c), AV.int .i64 x.s.day, AV.int .i64 x.s.e]] ∧ 1 = 1 ∧ Ex.size x.x < n ∧ VPre (2 : Int) x) fun n_1 => .all (fun (r : Bool × Int) => (St8.e n_1.s ≠ 0 → r.2 = St8.e n_1.s) ∧ (St8.e n_1.s = 0 → r.2 = Ev.g (evA n_1) ∧ (r.2 = 0 → r.1 = Ev.b (evA n_1)))) fun n_2 => .side (n_2.1 = true → (0 : Int) ≤ 1 ∧ (1 : Int) < s.length) (.ite (n_2.1 == true) (.ex (fun (x : VX) => eqL [AV.ptr 0 0, AV.agg [AV.int .u8 (Ex.kind (s.getD 1 Ex.nil)), AV.str (Ex.rat (s.getD 1 Ex.nil)), AV.str (Ex.name (s.getD 1 Ex.nil)), AV.int .i64 (Ex.date (s.getD 1 Ex.nil)), AV.sl (List.length (Ex.sub (s.getD 1 Ex.nil))) 5 (Ex.deep (s.getD 1 Ex.nil))]] [AV.ptr 0 0, AV.agg [AV.int .u8 x.x.kind, AV.str x.x.rat, AV.str x.x.name, AV.int .i64 x.x.date, AV.sl x.x.sub.length 5 (Ex.exG x.x.sub)]] ∧ eqH [.box [AV.sl (List.length (St8.f (n_1.s.err n_2.2))) 3 (fxG (St8.f (n_1.s.err n_2.2))), AV.sl (List.length (St8.c (n_1.s.err n_2.2))) 4 (chG (St8.c (n_1.s.err n_2.2))), AV.int .i64 (St8.day (n_1.s.err n_2.2)), AV.int .i64 (St8.e (n_1.s.err n_2.2))]] [.box [AV.sl x.s.f.length 3 (fxG x.s.f), AV.sl x.s.c.length 4 (chG x.s.c), AV.int .i64 x.s.day, AV.int .i64 x.s.e]] ∧ 1 = 1 ∧ Ex.size x.x < n ∧ VPre (2 : Int) x) fun n => .all (fun (r : Bool × Int) => (St8.e n.s ≠ 0 → r.2 = St8.e n.s) ∧ (St8.e n.s = 0 → r.2 = Ev.g (evA n) ∧ (r.2 = 0 → r.1 = Ev.b (evA n)))) fun n_3 => .leaf (.ret [.bool (bif n_2.1 then n_3.1 else false)] [.box [.sl (List.length (St8.f (n.s.err n_3.2))) 3 (fxG (St8.f (n.s.err n_3.2))), .sl (List.length (St8.c (n.s.err n_3.2))) 4 (chG (St8.c (n.s.err n_3.2))), .int .i64 (St8.day (n.s.err n_3.2)), .int .i64 (St8.e (n.s.err n_3.2))], .box [.int .u8 k, .str r, .str m, .int .i64 d, .sl s.length 5 (Ex.exG s)]])) (.leaf (.ret [.bool (bif n_2.1 then false else false)] [.box [.sl (List.length (St8.f (n_1.s.err n_2.2))) 3 (fxG (St8.f (n_1.s.err n_2.2))), .sl (List.length (St8.c (n_1.s.err n_2.2))) 4 (chG (St8.c (n_1.s.err n_2.2))), .int .i64 (St8.day (n_1.s.err n_2.2)), .int .i64 (St8.e (n_1.s.err n_2.2))], .box [.int .u8 k, .str r, .str m, .int .i64 d, .sl s.length 5 (Ex.exG s)]]))))) (.ite (decide (k = 14)) (.side ((0 : Int) ≤ 0 ∧ (0 : Int) < s.length) (.ex (fun (x : VX) => eqL [AV.ptr 0 0, AV.agg [AV.int .u8 (Ex.kind (s.getD 0 Ex.nil)), AV.str (Ex.rat (s.getD 0 Ex.nil)), AV.str (Ex.name (s.getD 0 Ex.nil)), AV.int .i64 (Ex.date (s.getD 0 Ex.nil)), AV.sl (List.length (Ex.sub (s.getD 0 Ex.nil))) 5 (Ex.deep (s.getD 0 Ex.nil))]] [AV.ptr 0 0, AV.agg [AV.int .u8 x.x.kind, AV.str x.x.rat, AV.str x.x.name, AV.int .i64 x.x.date, AV.sl x.x.sub.length 5 (Ex.exG x.x.sub)]] ∧ eqH [.box [AV.sl f.length 3 (fxG f), AV.sl c.length 4 (chG c), AV.int .i64 day, AV.int .i64 e]] [.box [AV.sl x.s.f.length 3 (fxG x.s.f), AV.sl x.s.c.length 4 (chG x.s.c), AV.int .i64 x.s.day, AV.int .i64 x.s.e]] ∧ 1 = 1 ∧ Ex.size x.x < n ∧ VPre (2 : Int) x) fun n_1 => .all (fun (r : Bool × Int) => (St8.e n_1.s ≠ 0 → r.2 = St8.e n_1.s) ∧ (St8.e n_1.s = 0 → r.2 = Ev.g (evA n_1) ∧ (r.2 = 0 → r.1 = Ev.b (evA n_1)))) fun n_2 => .side (n_2.1 = false → (0 : Int) ≤ 1 ∧ (1 : Int) < s.length) (.ite (n_2.1 == false) (.ex (fun (x : VX) => eqL [AV.ptr 0 0, AV.agg [AV.int .u8 (Ex.kind (s.getD 1 Ex.nil)), AV.str (Ex.rat (s.getD 1 Ex.nil)), AV.str (Ex.name (s.getD 1 Ex.nil)), AV.int .i64 (Ex.date (s.getD 1 Ex.nil)), AV.sl (List.length (Ex.sub (s.getD 1 Ex.nil))) 5 (Ex.deep (s.getD 1 Ex.nil))]] [AV.ptr 0 0, AV.agg [AV.int .u8 x.x.kind, AV.str x.x.rat, AV.str x.x.name, AV.int .i64 x.x.date, AV.sl x.x.sub.length 5 (Ex.exG x.x.sub)]] ∧ eqH [.box [AV.sl (List.length (St8.f (n_1.s.err n_2.2))) 3 (fxG (St8.f (n_1.s.err n_2.2))), AV.sl (List.length (St8.c (n_1.s.err n_2.2))) 4 (chG (St8.c (n_1.s.err n_2.2))), AV.int .i64 (St8.day (n_1.s.err n_2.2)), AV.int .i64 (St8.e (n_1.s.err n_2.2))]] [.box [AV.sl x.s.f.length 3 (fxG x.s.f), AV.sl x.s.c.length 4 (chG x.s.c), AV.int .i64 x.s.day, AV.int .i64 x.s.e]] ∧ 1 = 1 ∧ Ex.size x.x < n ∧ VPre (2 : Int) x) fun n => .all (fun (r : Bool × Int) => (St8.e n.s ≠ 0 → r.2 = St8.e n.s) ∧ (St8.e n.s = 0 → r.2 = Ev.g (evA n) ∧ (r.2 = 0 → r.1 = Ev.b (evA n)))) fun n_3 => .leaf (.ret [.bool (bif n_2.1 then true else n_3.1)] [.box [.sl (List.length (St8.f (n.s.err n_3.2))) 3 (fxG (St8.f (n.s.err n_3.2))), .sl (List.length (St8.c (n.s.err n_3.2))) 4 (chG (St8.c (n.s.err n_3.2))), .int .i64 (St8.day (n.s.err n_3.2)), .int .i64 (St8.e (n.s.err n_3.2))], .box [.int .u8 k, .str r, .str m, .int .i64 d, .sl s.length 5 (Ex.exG s)]])) (.leaf (.ret [.bool (bif n_2.1 then true else false)] [.box [.sl (List.length (St8.f (n_1.s.err n_2.2))) 3 (fxG (St8.f (n_1.s.err n_2.2))), .sl (List.length (St8.c (n_1.s.err n_2.2))) 4 (chG (St8.c (n_1.s.err n_2.2))), .int .i64 (St8.day (n_1.s.err n_2.2)), .int .i64 (St8.e (n_1.s.err n_2.2))], .box [.int .u8 k, .str r, .str m, .int .i64 d, .sl s.length 5 (Ex.exG s)]]))))) (.ite (decide (k = 15)) (.side ((0 : Int) ≤ 0 ∧ (0 : Int) < s.length) (.ex (fun (x : VX) => eqL [AV.ptr 0 0, AV.agg [AV.int .u8 (Ex.kind (s.getD 0 Ex.nil)), AV.str (Ex.rat (s.getD 0 Ex.nil)), AV.str (Ex.name (s.getD 0 Ex.nil)), AV.int .i64 (Ex.date (s.getD 0 Ex.nil)), AV.sl (List.length (Ex.sub (s.getD 0 Ex.nil))) 5 (Ex.deep (s.getD 0 Ex.nil))]] [AV.ptr 0 0, AV.agg [AV.int .u8 x.x.kind, AV.str x.x.rat, AV.str x.x.name, AV.int .i64 x.x.date, AV.sl x.x.sub.length 5 (Ex.exG x.x.sub)]] ∧ eqH [.box [AV.sl f.length 3 (fxG f), AV.sl c.length 4 (chG c), AV.int .i64 day, AV.int .i64 e]] [.box [AV.sl x.s.f.length 3 (fxG x.s.f), AV.sl x.s.c.length 4 (chG x.s.c), AV.int .i64 x.s.day, AV.int .i64 x.s.e]] ∧ 1 = 1 ∧ Ex.size x.x < n ∧ VPre (2 : Int) x) fun n => .all (fun (r : Bool × Int) => (St8.e n.s ≠ 0 → r.2 = St8.e n.s) ∧ (St8.e n.s = 0 → r.2 = Ev.g (evA n) ∧ (r.2 = 0 → r.1 = Ev.b (evA n)))) fun n_1 => .leaf (.ret [.bool (bif !Prod.fst n_1 then decide (St8.e (n.s.err n_1.2) = (0 : Int)) else false)] [.box [.sl (List.length (St8.f (n.s.err n_1.2))) 3 (fxG (St8.f (n.s.err n_1.2))), .sl (List.length (St8.c (n.s.err n_1.2))) 4 (chG (St8.c (n.s.err n_1.2))), .int .i64 (St8.day (n.s.err n_1.2)), .int .i64 (St8.e (n.s.err n_1.2))], .box [.int .u8 k, .str r, .str m, .int .i64 d, .sl s.length 5 (Ex.exG s)]]))) (.side ((0 : Int) ≤ 0 ∧ (0 : Int) < s.length) (.ex (fun (x : VX) => eqL [AV.ptr 0 0, AV.agg [AV.int .u8 (Ex.kind (s.getD 0 Ex.nil)), AV.str (Ex.rat (s.getD 0 Ex.nil)), AV.str (Ex.name (s.getD 0 Ex.nil)), AV.int .i64 (Ex.date (s.getD 0 Ex.nil)), AV.sl (List.length (Ex.sub (s.getD 0 Ex.nil))) 5 (Ex.deep (s.getD 0 Ex.nil))]] [AV.ptr 0 0, AV.agg [AV.int .u8 x.x.kind, AV.str x.x.rat, AV.str x.x.name, AV.int .i64 x.x.date, AV.sl x.x.sub.length 5 (Ex.exG x.x.sub)]] ∧ eqH [.box [AV.sl f.length 3 (fxG f), AV.sl c.length 4 (chG c), AV.int .i64 day, AV.int .i64 e]] [.box [AV.sl x.s.f.length 3 (fxG x.s.f), AV.sl x.s.c.length 4 (chG x.s.c), AV.int .i64 x.s.day, AV.int .i64 x.s.e]] ∧ 1 = 1 ∧ Ex.size x.x < n ∧ VPre (1 : Int) x) fun n_1 => .all (fun (r : List UInt8 × Int) => (St8.e n_1.s ≠ 0 → r.2 = St8.e n_1.s) ∧ (St8.e n_1.s = 0 → r.2 = Ev.e (evA n_1) ∧ (r.2 = 0 → r.1 = Ev.v (evA n_1)))) fun n_2 => .side ((0 : Int) ≤ 1 ∧ (1 : Int) < s.length) (.ex (fun (x : VX) => eqL [AV.ptr 0 0, AV.agg [AV.int .u8 (Ex.kind (s.getD 1 Ex.nil)), AV.str (Ex.rat (s.getD 1 Ex.nil)), AV.str (Ex.name (s.getD 1 Ex.nil)), AV.int .i64 (Ex.date (s.getD 1 Ex.nil)), AV.sl (List.length (Ex.sub (s.getD 1 Ex.nil))) 5 (Ex.deep (s.getD 1 Ex.nil))]] [AV.ptr 0 0, AV.agg [AV.int .u8 x.x.kind, AV.str x.x.rat, AV.str x.x.name, AV.int .i64 x.x.date, AV.sl x.x.sub.length 5 (Ex.exG x.x.sub)]] ∧ eqH [.box [AV.sl (List.length (St8.f (n_1.s.err n_2.2))) 3 (fxG (St8.f (n_1.s.err n_2.2))), AV.sl (List.length (St8.c (n_1.s.err n_2.2))) 4 (chG (St8.c (n_1.s.err n_2.2))), AV.int .i64 (St8.day (n_1.s.err n_2.2)), AV.int .i64 (St8.e (n_1.s.err n_2.2))]] [.box [AV.sl x.s.f.length 3 (fxG x.s.f), AV.sl x.s.c.length 4 (chG x.s.c), AV.int .i64 x.s.day, AV.int .i64 x.s.e]] ∧ 1 = 1 ∧ Ex.size x.x < n ∧ VPre (1 : Int) x) fun n => .all (fun (r : List UInt8 × Int) => (St8.e n.s ≠ 0 → r.2 = St8.e n.s) ∧ (St8.e n.s = 0 → r.2 = Ev.e (evA n) ∧ (r.2 = 0 → r.1 = Ev.v (evA n)))) fun n_3 => .ex (fun (x : K2) => eqL [AV.ptr 0 0, AV.str n_2.1, AV.str n_3.1] [AV.ptr 0 0, AV.str x.a, AV.str x.b] ∧ eqH [.box [AV.sl (List.length (St8.f (n.s.err n_3.2))) 3 (fxG (St8.f (n.s.err n_3.2))), AV.sl (List.length (St8.c (n.s.err n_3.2))) 4 (chG (St8.c (n.s.err n_3.2))), AV.int .i64 (St8.day (n.s.err n_3.2)), AV.int .i64 (St8.e (n.s.err n_3.2))]] [.box [AV.sl x.s.f.length 3 (fxG x.s.f), AV.sl x.s.c.length 4 (chG x.s.c), AV.int .i64 x.s.day, AV.int .i64 x.s.e]] ∧ 1 = 1 ∧ (St8.e x.s = 0 → x.a.length < 2305843009213693952 ∧ x.b.length < 2305843009213693952)) fun n => .all (fun (r : Int × Int) => r = cmpE n.s.e n.a n.b) fun n_4 => .ite (decide (k = 11)) (.leaf (.ret [.bool (decide (n_4.1 < 0))] [.box [.sl (List.length (St8.f (n.s.err n_4.2))) 3 (fxG (St8.f (n.s.err n_4.2))), .sl (List.length (St8.c (n.s.err n_4.2))) 4 (chG (St8.c (n.s.err n_4.2))), .int .i64 (St8.day (n.s.err n_4.2)), .int .i64 (St8.e (n.s.err n_4.2))], .box [.int .u8 k, .str r, .str m, .int .i64 d, .sl s.length 5 (Ex.exG s)]])) (.leaf (.ret [.bool (bif decide (n_4.1 = 0) then decide (St8.e (n.s.err n_4.2) = (0 : Int)) else false)] [.box [.sl (List.length (St8.f (n.s.err n_4.2))) 3 (fxG (St8.f (n.s.err n_4.2))), .sl (List.length (St8.c (n.s.err n_4.2))) 4 (chG (St8.c (n.s.err n_4.2))), .int .i64 (St8.day (n.s.err n_4.2)), .int .i64 (St8.e (n.s.err n_4.2))], .box [.int .u8 k, .str r, .str m, .int .i64 d, .sl s.length 5 (Ex.exG s)]]))))))))) (by kernel_rfl) ?_
 simp only [Tree.holds, zd]
 refine ⟨fun h => ?_, fun h => ?_⟩
 ·have h : e ≠ 0 := by simpa using h
  exact RetR.st9 rfl (hq (false, e) ⟨fun _ => rfl, fun h0 => absurd h0 h⟩) rfl rfl
 have h : e = 0 := by simpa using h
 subst h
 obtain ⟨hs, hf, hfl⟩ := hv rfl
 simp only at hs hf hfl
 have hq0 : ∀ t : Bool × Int, t.2 = ((Ex.mk k r m d s).ev f day).g → (t.2 = 0 → t.1 = ((Ex.mk k r m d s).ev f day).b) → Q (.bool t.1, [(St8.mk f c day t.2).box]) := fun t h1 h2 => hq t ⟨fun h => absurd rfl h, fun _ => ⟨h1, h2⟩⟩
 clear hq
 have hev : (Ex.mk k r m d s).ev f day = evN f day k r m d (Ex.evs f day s) := by rw [Ex.ev]
 have hc := Ex.yX hs
 simp only [Ex.kind, Ex.sub, Ex.rat] at hc
 rw [Ex.size] at hn
 have z0 := fun g => Ex.z6 (s := s) (i := 0) g
 have z1 := fun g => Ex.z6 (s := s) (i := 1) g
 have fin : ∀ (t : Bool × Int) (b : Blk), t.2 = ((Ex.mk k r m d s).ev f day).g → (t.2 = 0 → t.1 = ((Ex.mk k r m d s).ev f day).b) → RetR (hldC fun k => k.x.size < n + 1 ∧ VPre 2 k) 1 Q [.bool t.1] [.box [.sl f.length 3 (fxG f), .sl c.length 4 (chG c), .int .i64 day, .int .i64 t.2], b] := fun t b h1 h2 => RetR.st9 rfl (hq0 t h1 h2) rfl rfl
 rcases hc with ⟨hk, hl, hs0, hs1⟩ | ⟨hk, hl, hs0, hs1⟩ | ⟨rfl, hl, hs0⟩
 ·iterate 3 refine ⟨fun h => absurd (of_decide_eq_true h) (by omega), fun _ => ?_⟩
  have z0 := z0 (by omega)
  have z1 := z1 (by omega)
  have he : (((Ex.mk k r m d s).ev f day).b, ((Ex.mk k r m d s).ev f day).g) = ki false ((s.getD 0 Ex.nil).ev f day) ((s.getD 1 Ex.nil).ev f day) (uM k) := by
   rw [hev]
   simp only [evN, hldN]
   rw [if_neg (by omega), Ex.zA (by omega), Ex.zA (by omega)]
  unfold ki at he
  refine ⟨⟨by decide, by omega⟩, fun _ => ⟨⟨⟨f, c, day, 0⟩, s.getD 0 Ex.nil⟩, ⟨eqX2 _, qk f c day 0, by trivial, by show (s.getD 0 Ex.nil).size < n; omega, fun _ => ⟨hs0, hf, hfl⟩⟩, vN _ _ _, ?_⟩⟩
  intro r0 g0
  obtain ⟨g0, k0⟩ := g0.2 rfl
  simp only [evA] at g0 k0
  refine ⟨⟨by decide, by omega⟩, fun _ => ⟨⟨⟨f, c, day, r0.2⟩, s.getD 1 Ex.nil⟩, ⟨eqX2 _, qk f c day r0.2, by trivial, by show (s.getD 1 Ex.nil).size < n; omega, fun _ => ⟨hs1, hf, hfl⟩⟩, vN _ _ _, ?_⟩⟩
  intro r1 g1
  simp only [evA] at g1
  have hboth : r1.2 = 0 → r0.2 = 0 ∧ r0.1 = ((s.getD 0 Ex.nil).ev f day).v ∧ r1.1 = ((s.getD 1 Ex.nil).ev f day).v ∧ errR r0.1 = 0 ∧ errR r1.1 = 0 ∧ ((Ex.mk k r m d s).ev f day).b = (uM k r0.1 r1.1).1 ∧ ((Ex.mk k r m d s).ev f day).g = (uM k r0.1 r1.1).2 := by
   intro h
   have h3 : r0.2 = 0 := by
    refine Decidable.byContradiction fun h3 => ?_
    exact h3 (by rw [← g1.1 h3]; exact h)
   obtain ⟨q1, k1'⟩ := g1.2 h3
   have k0 := k0 h3
   have k1' := k1' h
   rw [if_neg (by rw [← g0]; simpa using h3), if_neg (by rw [← q1]; simpa using h), ← k0, ← k1'] at he
   have l0 : errR r0.1 = 0 := by rw [k0]; exact Ex.vX hf day _ hs0 (by rw [← g0]; exact h3)
   have l1 : errR r1.1 = 0 := by rw [k1']; exact Ex.vX hf day _ hs1 (by rw [← q1]; exact h)
   exact ⟨h3, k0, k1', l0, l1, congrArg Prod.fst he, congrArg Prod.snd he⟩
  refine ⟨⟨⟨f, c, day, r1.2⟩, r0.1, r1.1⟩, ⟨⟨⟨rfl, rfl⟩, rfl, rfl, trivial⟩, qk f c day r1.2, by trivial, fun h => ?_⟩, ⟨_, rfl⟩, ?_⟩
  ·obtain ⟨_, _, _, l0, l1, _⟩ := hboth h
   have l0 := jO l0
   have l1 := jO l1
   exact ⟨by show r0.1.length < _; omega, by show r1.1.length < _; omega⟩
  intro z hz
  simp only at hz
  by_cases h : r1.2 = 0
  ·obtain ⟨h3, k0, k1', l0, l1, e1, e2⟩ := hboth h
   have hz : z = cmpR r0.1 r1.1 := by rw [hz]; unfold cmpE; rw [if_neg (by rw [h]; simp)]
   unfold uM at e1 e2
   refine ⟨fun hk => ?_, fun hk => ?_⟩
   ·have hk : k = 11 := of_decide_eq_true hk
    refine fin (decide (z.1 < 0), z.2) _ ?_ fun h0 => ?_
    ·rw [e2, hz]
     by_cases g : (cmpR r0.1 r1.1).2 = 0
     ·rw [if_neg (by rw [g]; simp)]; exact g
     ·rw [if_pos g]
    ·have h0 : z.2 = 0 := h0
     rw [hz] at h0 ⊢
     rw [e1, if_neg (by rw [h0]; simp), if_pos hk]
   ·have hk : ¬ k = 11 := of_decide_eq_false hk
    refine fin ((bif decide (z.1 = 0) then decide (z.2 = 0) else false), z.2) _ ?_ fun h0 => ?_
    ·rw [e2, hz]
     by_cases g : (cmpR r0.1 r1.1).2 = 0
     ·rw [if_neg (by rw [g]; simp)]; exact g
     ·rw [if_pos g]
    ·have h0 : z.2 = 0 := h0
     rw [hz] at h0 ⊢
     rw [e1, if_neg (by rw [h0]; simp), if_neg hk]
     simp only [h0]
     cases decide ((cmpR r0.1 r1.1).1 = 0) <;> rfl
  ·have hz : z = (0, r1.2) := by rw [hz]; unfold cmpE; rw [if_pos h]
   have hg : ((Ex.mk k r m d s).ev f day).g = r1.2 := by
    have he := congrArg Prod.snd he
    simp only at he
    rw [he]
    by_cases h3 : r0.2 = 0
    ·obtain ⟨q1, _⟩ := g1.2 h3
     rw [if_neg (by rw [← g0]; simpa using h3), if_pos (by rw [← q1]; exact h), q1]
    ·rw [if_pos (by rw [← g0]; exact h3), g1.1 h3, g0]
   subst hz
   refine ⟨fun hk => ?_, fun hk => ?_⟩
   ·exact fin (false, r1.2) _ hg.symm fun h0 => absurd h0 h
   ·refine fin ((bif decide ((0 : Int) = 0) then decide (r1.2 = 0) else false), r1.2) _ hg.symm fun h0 => absurd h0 h
 ·have z0 := z0 (by omega)
  have z1 := z1 (by omega)
  have he : (((Ex.mk k r m d s).ev f day).b, ((Ex.mk k r m d s).ev f day).g) = if ((s.getD 0 Ex.nil).ev f day).g ≠ 0 then (false, ((s.getD 0 Ex.nil).ev f day).g) else if ((s.getD 0 Ex.nil).ev f day).b = decide (k = 14) then (((s.getD 0 Ex.nil).ev f day).b, 0) else (((s.getD 1 Ex.nil).ev f day).b, ((s.getD 1 Ex.nil).ev f day).g) := by
   rw [hev]
   simp only [evN, hldN]
   rw [if_pos (by omega), if_neg (show ¬ k = 15 by omega), Ex.zA (by omega), Ex.zA (by omega)]
  have go : ∀ (r0 : Bool × Int), r0.2 = ((s.getD 0 Ex.nil).ev f day).g → (r0.2 = 0 → r0.1 = ((s.getD 0 Ex.nil).ev f day).b) →
    (r0.1 = decide (k = 14) → r0.2 = ((Ex.mk k r m d s).ev f day).g ∧ (r0.2 = 0 → r0.1 = ((Ex.mk k r m d s).ev f day).b)) ∧
    (r0.1 ≠ decide (k = 14) → ∀ r1 : Bool × Int, ((r0.2 ≠ 0 → r1.2 = r0.2) ∧ (r0.2 = 0 → r1.2 = ((s.getD 1 Ex.nil).ev f day).g ∧ (r1.2 = 0 → r1.1 = ((s.getD 1 Ex.nil).ev f day).b))) → r1.2 = ((Ex.mk k r m d s).ev f day).g ∧ (r1.2 = 0 → r1.1 = ((Ex.mk k r m d s).ev f day).b)) := by
   intro r0 g0 k0
   have e1 := congrArg Prod.fst he
   have e2 := congrArg Prod.snd he
   simp only at e1 e2
   rw [e1, e2]
   by_cases h3 : r0.2 = 0
   ·rw [if_neg (by rw [← g0]; simpa using h3), ← k0 h3]
    refine ⟨fun h => ?_, fun h r1 g1 => ?_⟩
    ·rw [if_pos h]; exact ⟨h3, fun _ => rfl⟩
    ·rw [if_neg h]; exact g1.2 h3
   ·rw [if_pos (by rw [← g0]; exact h3)]
    refine ⟨fun h => ⟨g0, fun h0 => absurd h0 h3⟩, fun h r1 g1 => ?_⟩
    rw [g1.1 h3]
    exact ⟨g0, fun h0 => absurd h0 h3⟩
  have first : ∃ r : Bool × Int, ((0 : Int) ≠ 0 → r.2 = 0) ∧ ((0 : Int) = 0 → r.2 = (evA ⟨⟨f, c, day, 0⟩, s.getD 0 Ex.nil⟩).g ∧ (r.2 = 0 → r.1 = (evA ⟨⟨f, c, day, 0⟩, s.getD 0 Ex.nil⟩).b)) := yN _ _ _
  rcases hk with rfl | rfl
  ·refine ⟨fun _ => ?_, fun h => (by cases h)⟩
   refine ⟨⟨by decide, by omega⟩, fun _ => ⟨⟨⟨f, c, day, 0⟩, s.getD 0 Ex.nil⟩, ⟨eqX2 _, qk f c day 0, by trivial, by show (s.getD 0 Ex.nil).size < n; omega, fun _ => ⟨hs0, hf, hfl⟩⟩, first, ?_⟩⟩
   intro r0 g0
   obtain ⟨g0, k0⟩ := g0.2 rfl
   obtain ⟨go1, go2⟩ := go r0 g0 k0
   refine ⟨fun _ => ⟨by decide, by omega⟩, fun _ => ⟨fun hb => ?_, fun hb => ?_⟩⟩
   ·have hb : r0.1 = true := by simpa using hb
    refine ⟨⟨⟨f, c, day, r0.2⟩, s.getD 1 Ex.nil⟩, ⟨eqX2 _, qk f c day r0.2, by trivial, by show (s.getD 1 Ex.nil).size < n; omega, fun _ => ⟨hs1, hf, hfl⟩⟩, yN _ _ _, ?_⟩
    intro r1 g1
    rw [hb]
    obtain ⟨u1, u2⟩ := go2 (by rw [hb]; decide) r1 g1
    exact fin r1 _ u1 u2
   ·have hb : r0.1 = false := by simpa using hb
    rw [hb]
    obtain ⟨u1, u2⟩ := go1 (by rw [hb]; rfl)
    exact fin (false, r0.2) _ u1 (fun h0 => by rw [← u2 h0, hb])
  ·refine ⟨fun h => (by cases h), fun _ => ⟨fun _ => ?_, fun h => (by cases h)⟩⟩
   refine ⟨⟨by decide, by omega⟩, fun _ => ⟨⟨⟨f, c, day, 0⟩, s.getD 0 Ex.nil⟩, ⟨eqX2 _, qk f c day 0, by trivial, by show (s.getD 0 Ex.nil).size < n; omega, fun _ => ⟨hs0, hf, hfl⟩⟩, first, ?_⟩⟩
   intro r0 g0
   obtain ⟨g0, k0⟩ := g0.2 rfl
   obtain ⟨go1, go2⟩ := go r0 g0 k0
   refine ⟨fun _ => ⟨by decide, by omega⟩, fun _ => ⟨fun hb => ?_, fun hb => ?_⟩⟩
   ·have hb : r0.1 = false := by simpa using hb
    refine ⟨⟨⟨f, c, day, r0.2⟩, s.getD 1 Ex.nil⟩, ⟨eqX2 _, qk f c day r0.2, by trivial, by show (s.getD 1 Ex.nil).size < n; omega, fun _ => ⟨hs1, hf, hfl⟩⟩, yN _ _ _, ?_⟩
    intro r1 g1
    rw [hb]
    obtain ⟨u1, u2⟩ := go2 (by rw [hb]; decide) r1 g1
    exact fin r1 _ u1 u2
   ·have hb : r0.1 = true := by simpa using hb
    rw [hb]
    obtain ⟨u1, u2⟩ := go1 (by rw [hb]; rfl)
    exact fin (true, r0.2) _ u1 (fun h0 => by rw [← u2 h0, hb])
 ·iterate 2 refine ⟨fun h => (by cases h), fun _ => ?_⟩
  refine ⟨fun _ => ?_, fun h => (by cases h)⟩
  have z0 := z0 (by omega)
  have he : (((Ex.mk 15 r m d s).ev f day).b, ((Ex.mk 15 r m d s).ev f day).g) = if ((s.getD 0 Ex.nil).ev f day).g ≠ 0 then (false, ((s.getD 0 Ex.nil).ev f day).g) else (!((s.getD 0 Ex.nil).ev f day).b, 0) := by
   rw [hev]
   simp only [evN, hldN]
   rw [if_pos (by decide), if_pos trivial, Ex.zA (by omega)]
  refine ⟨⟨by decide, by omega⟩, fun _ => ⟨⟨⟨f, c, day, 0⟩, s.getD 0 Ex.nil⟩, ⟨eqX2 _, qk f c day 0, by trivial, by show (s.getD 0 Ex.nil).size < n; omega, fun _ => ⟨hs0, hf, hfl⟩⟩, yN _ _ _, ?_⟩⟩
  intro r0 g0
  obtain ⟨g0, k0⟩ := g0.2 rfl
  simp only [evA] at g0 k0
  have e1 := congrArg Prod.fst he
  have e2 := congrArg Prod.snd he
  simp only at e1 e2
  refine fin ((bif !r0.1 then decide (r0.2 = 0) else false), r0.2) _ ?_ fun h3 => ?_
  ·rw [e2]
   by_cases h3 : r0.2 = 0
   ·rw [if_neg (by rw [← g0]; simpa using h3)]; exact h3
   ·rw [if_pos (by rw [← g0]; exact h3)]; exact g0
  ·have h3 : r0.2 = 0 := h3
   rw [e1, if_neg (by rw [← g0]; simpa using h3), ← k0 h3]
   simp only [h3]
   cases r0.1 <;> rfl
end
theorem Ko : zc Tryz.prog 23 (valC (VPre 1)) ∧ zc Tryz.prog 26 (hldC (VPre 2)) :=
 X1 (fun k : VX => k.x.size) (fun k : VX => k.x.size) fun n h1 h2 => ⟨V9 n h1 h2, VM n h1 h2⟩
theorem zb9 : zc Tryz.prog 23 (valC (VPre 1)) := Ko.1
theorem zar : zc Tryz.prog 26 (hldC (VPre 2)) := Ko.2
end Go.Proofs.Tryz
end

/- Values of expressions, with the errors that come first. -/
section
namespace Go.Nov
def askE (x : Ex) (want day : Int) (f : List Fx) (c : List Ch) : Int := if x.errX ≠ 0 then x.errX else if x.z9 ≠ want then 32 else if errE f c ≠ 0 then errE f c else if dayB day then 0 else 2
def uZ (x : Ex) (day : Int) (f : List Fx) (c : List Ch) : List UInt8 × Int := if askE x 1 day f c ≠ 0 then ([], askE x 1 day f c) else if (x.ev f day).e ≠ 0 then ([], (x.ev f day).e) else ((x.ev f day).v, 0)
def uX (x : Ex) (day : Int) (f : List Fx) (c : List Ch) : Bool × Int := if askE x 2 day f c ≠ 0 then (false, askE x 2 day f c) else if (x.ev f day).g ≠ 0 then (false, (x.ev f day).g) else ((x.ev f day).b, 0)
theorem zec {x : Ex} {want day : Int} {f : List Fx} {c : List Ch} (h : x.errX ≠ 0) : askE x want day f c = x.errX := by unfold askE; rw [if_pos h]
theorem zdu {x : Ex} {want day : Int} {f : List Fx} {c : List Ch} (h : x.errX = 0) (h2 : ¬ x.z9 = want) : askE x want day f c = 32 := by unfold askE; rw [if_neg (by rw [h]; simp), if_pos h2]
theorem zdt {x : Ex} {want day : Int} {f : List Fx} {c : List Ch} (h : x.errX = 0) (h2 : x.z9 = want) : askE x want day f c = if errE f c = 0 then (if dayB day = true then 0 else 2) else errE f c := by
 unfold askE
 rw [if_neg (by rw [h]; simp), if_neg (by rw [h2]; simp)]
 by_cases g : errE f c = 0
 ·rw [if_pos g, if_neg (by rw [g]; simp)]
 ·rw [if_neg g, if_pos g]
theorem xC {x : Ex} {want day : Int} {f : List Fx} {c : List Ch} (h : askE x want day f c = 0) : x.errX = 0 ∧ x.z9 = want ∧ errE f c = 0 ∧ dayB day = true := by
 unfold askE at h
 split at h
 ·rename_i g; exact absurd h g
 ·rename_i g1
  split at h
  ·cases h
  ·rename_i g2
   split at h
   ·rename_i g; exact absurd h g
   ·rename_i g3
    split at h
    ·rename_i g4
     exact ⟨Classical.not_not.1 g1, Classical.not_not.1 g2, Classical.not_not.1 g3, g4⟩
    ·cases h
end Go.Nov
end

/- Evaluation: begin, Value, Holds. -/
section
set_option maxRecDepth 100000
open Go Go.Sx Go.Proofs Go.Nov
namespace Go.Proofs.Tryz
attribute [local simp] eqKV eqA eqA0 eqH eqB eqL eqL0
noncomputable def K22 : List Go.Sx.Item := [.code (Tryz.f22.body.getD .skip)]
noncomputable def K7 : List Go.Sx.Item := [.code (Tryz.f7.body.getD .skip)]
noncomputable def K9 : List Go.Sx.Item := [.code (Tryz.f9.body.getD .skip)]
structure BX where
 x : Ex
 want : Int
 day : Int
 f : List Fx
 c : List Ch
def BX.ask (b : BX) : Int := askE b.x b.want b.day b.f b.c
def xw : Ctr := ctrT false false (fun b : BX => [b.x.exA, .int .u8 b.want, .int .i64 b.day, envA b.f b.c]) (fun _ => []) (fun b => b.x.size < 2 ^ 40 ∧ b.x.zx < 2 ^ 40 ∧ envP (b.f, b.c)) (fun b r => r = b.ask) (fun b (r : Int) => (.ptr 0 0, [(St8.mk b.f b.c b.day r).box]))
def GBe : Nat → Option Ctr := fun f => if f = 31 then some (ur) else if f = 32 then some (QV) else if f = 40 then some (xM) else if f = 41 then some (wS) else none
theorem zev : ∀ g c, GBe g = some c → zc Tryz.prog g c := okIf Yn (okIf Xa (okIf X7 (okIf yy (okNone))))
theorem zb7 : zc Tryz.prog 22 xw := by
 refine zN (fn := Tryz.f22) (c := Tryz.f22.body.getD .skip) rfl rfl rfl (fun h => by cases h) fun b hb O w0 σ0 Q hl0 hq => ?_
 obtain rfl : σ0 = [] := List.length_eq_zero_iff.1 hl0
 obtain ⟨x, want, day, f, c⟩ := b
 obtain ⟨h1, h2, h3⟩ := hb
 replace hq := hq _ rfl
 simp only [BX.ask] at h1 h2 h3 hq
 refine zb.run hmix zev [] 400 (T := .ex (fun (x_1 : Ex) => eqL [AV.agg [AV.int .u8 x.kind, AV.str x.rat, AV.str x.name, AV.int .i64 x.date, AV.sl x.sub.length 5 (Ex.exG x.sub)]] [AV.agg [AV.int .u8 x_1.kind, AV.str x_1.rat, AV.str x_1.name, AV.int .i64 x_1.date, AV.sl x_1.sub.length 5 (Ex.exG x_1.sub)]] ∧ Ex.size x_1 < 1099511627776 ∧ Ex.zx x_1 < 1099511627776) fun n => .all (fun (r : Int) => r = Ex.errX n) fun n => .ex (fun (x_1 : Ex) => decide (n = 0) = true → eqL [AV.agg [AV.int .u8 x.kind, AV.str x.rat, AV.str x.name, AV.int .i64 x.date, AV.sl x.sub.length 5 (Ex.exG x.sub)]] [AV.agg [AV.int .u8 x_1.kind, AV.str x_1.rat, AV.str x_1.name, AV.int .i64 x_1.date, AV.sl x_1.sub.length 5 (Ex.exG x_1.sub)]] ∧ Ex.size x_1 < 1152921504606846976 ∧ Ex.zx x_1 < 1099511627776) fun n_1 => .all (fun (x : Int) => decide (n = 0) = true → x = Ex.z9 n_1) fun n_2 => .ite (bif decide (n = 0) then !decide (n_2 = want) else false) (.ite false (.ex (fun (x : List Fx × List Ch) => eqL [AV.agg [AV.sl f.length 3 (fxG f), AV.sl c.length 4 (chG c)]] [AV.agg [AV.sl x.1.length 3 (fxG x.1), AV.sl x.2.length 4 (chG x.2)]] ∧ envP x) fun n => .all (fun (r : Int) => r = errE n.1 n.2) fun n => .ex (fun (x : Int) => decide (n = 0) = true → eqL [AV.int .i64 day] [AV.int .i64 x] ∧ True) fun n_3 => .all (fun (x : Bool) => decide (n = 0) = true → x = dayB n_3) fun n_4 => .ite (bif decide (n = 0) then !n_4 else false) (.leaf (.ret [.ptr 2 0] [.box [.int .u8 x.kind, .str x.rat, .str x.name, .int .i64 x.date, .sl x.sub.length 5 (Ex.exG x.sub)], .box [.sl f.length 3 (fxG f), .sl c.length 4 (chG c)], .box [.sl f.length 3 (fxG f), .sl c.length 4 (chG c), .int .i64 day, .int .i64 2]])) (.leaf (.ret [.ptr 2 0] [.box [.int .u8 x.kind, .str x.rat, .str x.name, .int .i64 x.date, .sl x.sub.length 5 (Ex.exG x.sub)], .box [.sl f.length 3 (fxG f), .sl c.length 4 (chG c)], .box [.sl f.length 3 (fxG f), .sl c.length 4 (chG c), .int .i64 day, .int .i64 n]]))) (.ex (fun (x : Int) => decide ((32 : Int) = 0) = true → eqL [AV.int .i64 day] [AV.int .i64 x] ∧ True) fun n => .all (fun (x : Bool) => decide ((32 : Int) = 0) = true → x = dayB n) fun n => .ite (bif decide ((32 : Int) = 0) then !n else false) (.leaf (.ret [.ptr 2 0] [.box [.int .u8 x.kind, .str x.rat, .str x.name, .int .i64 x.date, .sl x.sub.length 5 (Ex.exG x.sub)], .box [.sl f.length 3 (fxG f), .sl c.length 4 (chG c)], .box [.sl f.length 3 (fxG f), .sl c.length 4 (chG c), .int .i64 day, .int .i64 2]])) (.leaf (.ret [.ptr 2 0] [.box [.int .u8 x.kind, .str x.rat, .str x.name, .int .i64 x.date, .sl x.sub.length 5 (Ex.exG x.sub)], .box [.sl f.length 3 (fxG f), .sl c.length 4 (chG c)], .box [.sl f.length 3 (fxG f), .sl c.length 4 (chG c), .int .i64 day, .int .i64 32]])))) (.ite (decide (n = 0)) (.ex (fun (x : List Fx × List Ch) => eqL [AV.agg [AV.sl f.length 3 (fxG f), AV.sl c.length 4 (chG c)]] [AV.agg [AV.sl x.1.length 3 (fxG x.1), AV.sl x.2.length 4 (chG x.2)]] ∧ envP x) fun n => .all (fun (r : Int) => r = errE n.1 n.2) fun n => .ex (fun (x : Int) => decide (n = 0) = true → eqL [AV.int .i64 day] [AV.int .i64 x] ∧ True) fun n_3 => .all (fun (x : Bool) => decide (n = 0) = true → x = dayB n_3) fun n_4 => .ite (bif decide (n = 0) then !n_4 else false) (.leaf (.ret [.ptr 2 0] [.box [.int .u8 x.kind, .str x.rat, .str x.name, .int .i64 x.date, .sl x.sub.length 5 (Ex.exG x.sub)], .box [.sl f.length 3 (fxG f), .sl c.length 4 (chG c)], .box [.sl f.length 3 (fxG f), .sl c.length 4 (chG c), .int .i64 day, .int .i64 2]])) (.leaf (.ret [.ptr 2 0] [.box [.int .u8 x.kind, .str x.rat, .str x.name, .int .i64 x.date, .sl x.sub.length 5 (Ex.exG x.sub)], .box [.sl f.length 3 (fxG f), .sl c.length 4 (chG c)], .box [.sl f.length 3 (fxG f), .sl c.length 4 (chG c), .int .i64 day, .int .i64 n]]))) (.ex (fun (x : Int) => decide (n = 0) = true → eqL [AV.int .i64 day] [AV.int .i64 x] ∧ True) fun n_3 => .all (fun (x : Bool) => decide (n = 0) = true → x = dayB n_3) fun n_4 => .ite (bif decide (n = 0) then !n_4 else false) (.leaf (.ret [.ptr 2 0] [.box [.int .u8 x.kind, .str x.rat, .str x.name, .int .i64 x.date, .sl x.sub.length 5 (Ex.exG x.sub)], .box [.sl f.length 3 (fxG f), .sl c.length 4 (chG c)], .box [.sl f.length 3 (fxG f), .sl c.length 4 (chG c), .int .i64 day, .int .i64 2]])) (.leaf (.ret [.ptr 2 0] [.box [.int .u8 x.kind, .str x.rat, .str x.name, .int .i64 x.date, .sl x.sub.length 5 (Ex.exG x.sub)], .box [.sl f.length 3 (fxG f), .sl c.length 4 (chG c)], .box [.sl f.length 3 (fxG f), .sl c.length 4 (chG c), .int .i64 day, .int .i64 n]]))))) (by kernel_rfl) ?_
 simp only [Tree.holds, zd]
 have eE : eqL [AV.agg [AV.sl f.length 3 (fxG f), AV.sl c.length 4 (chG c)]] [envA f c] := ⟨⟨⟨rfl, rfl, za _ _ _⟩, ⟨rfl, rfl, za _ _ _⟩, trivial⟩, trivial⟩
 have eX : eqL [x.exA] [x.exA] := ⟨⟨⟨rfl, rfl⟩, rfl, rfl, ⟨rfl, rfl⟩, ⟨rfl, rfl, za _ _ _⟩, trivial⟩, trivial⟩
 generalize hask : askE x want day f c = ask at hq
 have ret : ∀ (b0 b1 : Blk), RetR xw 0 Q [.ptr 2 0] [b0, b1, .box [AV.sl f.length 3 (fxG f), AV.sl c.length 4 (chG c), AV.int IntKind.i64 day, AV.int IntKind.i64 ask]] := by
  intro b0 b1
  refine RetR.outs [2] rfl rfl hq (fun h => by cases h) ?_ ?_ rfl
  ·exact ⟨rfl, rfl⟩
  ·exact qk f c day ask
 have tail : ∀ (e0 : Int) (b0 b1 : Blk), (if e0 = 0 then (if dayB day = true then 0 else 2) else e0) = ask → ∃ n3 : Int, ((decide (e0 = 0) = true → eqL [AV.int .i64 day] [AV.int .i64 n3] ∧ True) ∧ (∃ b : Bool, decide (e0 = 0) = true → b = dayB n3) ∧ ∀ b : Bool, (decide (e0 = 0) = true → b = dayB n3) →
   ((bif decide (e0 = 0) then !b else false) = true → RetR xw 0 Q [.ptr 2 0] [b0, b1, .box [AV.sl f.length 3 (fxG f), AV.sl c.length 4 (chG c), AV.int IntKind.i64 day, AV.int IntKind.i64 2]]) ∧
   ((bif decide (e0 = 0) then !b else false) = false → RetR xw 0 Q [.ptr 2 0] [b0, b1, .box [AV.sl f.length 3 (fxG f), AV.sl c.length 4 (chG c), AV.int IntKind.i64 day, AV.int IntKind.i64 e0]])) := by
  intro e0 b0 b1 h
  refine ⟨day, fun _ => ⟨⟨⟨rfl, rfl⟩, trivial⟩, trivial⟩, ⟨_, fun _ => rfl⟩, fun b hb => ?_⟩
  by_cases h0 : e0 = 0
  ·have hb := hb (decide_eq_true h0)
   rw [if_pos h0] at h
   rw [decide_eq_true h0, hb, h0]
   cases hd : dayB day with
   | true =>
    rw [hd, if_pos rfl] at h
    rw [h]
    exact ⟨fun h => (by cases h), fun _ => ret _ _⟩
   | false =>
    rw [hd, if_neg (by decide)] at h
    rw [h]
    exact ⟨fun _ => ret _ _, fun h => (by cases h)⟩
  ·rw [if_neg h0] at h
   rw [decide_eq_false h0, h]
   exact ⟨fun h => (by cases h), fun _ => ret _ _⟩
 have chk : ∀ (b0 b1 : Blk), x.errX = 0 → x.z9 = want → ∃ n : List Fx × List Ch, (eqL [AV.agg [AV.sl f.length 3 (fxG f), AV.sl c.length 4 (chG c)]] [AV.agg [AV.sl n.1.length 3 (fxG n.1), AV.sl n.2.length 4 (chG n.2)]] ∧ envP n) ∧ (∃ r, r = errE n.1 n.2) ∧ ∀ r : Int, r = errE n.1 n.2 →
   ∃ n3 : Int, ((decide (r = 0) = true → eqL [AV.int .i64 day] [AV.int .i64 n3] ∧ True) ∧ (∃ b : Bool, decide (r = 0) = true → b = dayB n3) ∧ ∀ b : Bool, (decide (r = 0) = true → b = dayB n3) →
   ((bif decide (r = 0) then !b else false) = true → RetR xw 0 Q [.ptr 2 0] [b0, b1, .box [AV.sl f.length 3 (fxG f), AV.sl c.length 4 (chG c), AV.int IntKind.i64 day, AV.int IntKind.i64 2]]) ∧
   ((bif decide (r = 0) then !b else false) = false → RetR xw 0 Q [.ptr 2 0] [b0, b1, .box [AV.sl f.length 3 (fxG f), AV.sl c.length 4 (chG c), AV.int IntKind.i64 day, AV.int IntKind.i64 r]])) := by
  intro b0 b1 g1 g2
  refine ⟨(f, c), ⟨eE, h3⟩, ⟨_, rfl⟩, ?_⟩
  rintro _ rfl
  refine tail _ _ _ ?_
  rw [← hask, zdt g1 g2]
 refine ⟨x, ⟨eX, h1, h2⟩, ⟨_, rfl⟩, ?_⟩
 rintro _ rfl
 refine ⟨x, fun _ => ⟨eX, by omega, h2⟩, ⟨_, fun _ => rfl⟩, ?_⟩
 intro z hz
 by_cases g1 : x.errX = 0
 ·have hz := hz (decide_eq_true g1)
  subst hz
  refine ⟨fun hc => ⟨fun h => (by cases h), fun _ => ?_⟩, fun hc => ⟨fun _ => ?_, fun h => absurd g1 (of_decide_eq_false h)⟩⟩
  ·have g2 : ¬ x.z9 = want := by
    rw [decide_eq_true g1] at hc
    simpa using hc
   refine tail 32 _ _ ?_
   rw [← hask, zdu g1 g2]
   rfl
  ·have g2 : x.z9 = want := by
    rw [decide_eq_true g1] at hc
    simpa using hc
   exact chk _ _ g1 g2
 ·refine ⟨fun hc => ?_, fun _ => ⟨fun h => absurd (of_decide_eq_true h) g1, fun _ => ?_⟩⟩
  ·rw [decide_eq_false g1] at hc; cases hc
  ·refine tail _ _ _ ?_
   rw [← hask, zec g1, if_neg g1]
structure VI where
 x : Ex
 day : Int
 f : List Fx
 c : List Ch
def VI.ok (k : VI) : Prop := k.x.size < 2 ^ 40 ∧ k.x.zx < 2 ^ 40 ∧ envP (k.f, k.c)
def Jr : Ctr := ctrP true (fun k : VI => [k.x.exA, .int .i64 k.day, envA k.f k.c]) VI.ok (fun k r => r = uZ k.x k.day k.f k.c) (fun _ (r : List UInt8 × Int) => (.tup [.str r.1, .int .i64 r.2], []))
def Ja : Ctr := ctrP true (fun k : VI => [k.x.exA, .int .i64 k.day, envA k.f k.c]) VI.ok (fun k r => r = uX k.x k.day k.f k.c) (fun _ (r : Bool × Int) => (.tup [.bool r.1, .int .i64 r.2], []))
def GVh : Nat → Option Ctr := fun f => if f = 22 then some (xw) else if f = 23 then some ((valC (VPre 1))) else if f = 26 then some ((hldC (VPre 2))) else none
theorem za1 : ∀ g c, GVh g = some c → zc Tryz.prog g c := okIf zb7 (okIf zb9 (okIf zar (okNone)))
theorem zae : zc Tryz.prog 7 Jr := by
 refine ze (fn := Tryz.f7) (c := Tryz.f7.body.getD .skip) rfl rfl rfl fun k hk O w0 Q hq => ?_
 obtain ⟨x, day, f, c⟩ := k
 obtain ⟨h1, h2, h3⟩ := hk
 replace hq := hq _ rfl
 simp only at h1 h2 h3 hq
 unfold uZ at hq
 refine zb.run hmix za1 [] 400 (T := .ex (fun (x_1 : BX) => eqL [AV.agg [AV.int .u8 x.kind, AV.str x.rat, AV.str x.name, AV.int .i64 x.date, AV.sl x.sub.length 5 (Ex.exG x.sub)], AV.int .u8 1, AV.int .i64 day, AV.agg [AV.sl f.length 3 (fxG f), AV.sl c.length 4 (chG c)]] [AV.agg [AV.int .u8 x_1.x.kind, AV.str x_1.x.rat, AV.str x_1.x.name, AV.int .i64 x_1.x.date, AV.sl x_1.x.sub.length 5 (Ex.exG x_1.x.sub)], AV.int .u8 x_1.want, AV.int .i64 x_1.day, AV.agg [AV.sl x_1.f.length 3 (fxG x_1.f), AV.sl x_1.c.length 4 (chG x_1.c)]] ∧ eqH [] [] ∧ 0 = 0 ∧ Ex.size x_1.x < 1099511627776 ∧ Ex.zx x_1.x < 1099511627776 ∧ envP (BX.f x_1, BX.c x_1)) fun n => .all (fun (r : Int) => r = BX.ask n) fun n_1 => .ex (fun (x_1 : VX) => eqL [AV.ptr 0 0, AV.agg [AV.int .u8 x.kind, AV.str x.rat, AV.str x.name, AV.int .i64 x.date, AV.sl x.sub.length 5 (Ex.exG x.sub)]] [AV.ptr 0 0, AV.agg [AV.int .u8 x_1.x.kind, AV.str x_1.x.rat, AV.str x_1.x.name, AV.int .i64 x_1.x.date, AV.sl x_1.x.sub.length 5 (Ex.exG x_1.x.sub)]] ∧ eqH [.box [AV.sl n.f.length 3 (fxG n.f), AV.sl n.c.length 4 (chG n.c), AV.int .i64 n.day, AV.int .i64 n_1]] [.box [AV.sl x_1.s.f.length 3 (fxG x_1.s.f), AV.sl x_1.s.c.length 4 (chG x_1.s.c), AV.int .i64 x_1.s.day, AV.int .i64 x_1.s.e]] ∧ 1 = 1 ∧ VPre (1 : Int) x_1) fun n => .all (fun (r : List UInt8 × Int) => (St8.e n.s ≠ 0 → r.2 = St8.e n.s) ∧ (St8.e n.s = 0 → r.2 = Ev.e (evA n) ∧ (r.2 = 0 → r.1 = Ev.v (evA n)))) fun n_2 => .ite (!decide (St8.e (n.s.err n_2.2) = (0 : Int))) (.leaf (.ret [.str (Array.toList #[]), .int .i64 (St8.e (n.s.err n_2.2))] [.box [.int .u8 x.kind, .str x.rat, .str x.name, .int .i64 x.date, .sl x.sub.length 5 (Ex.exG x.sub)], .box [.sl f.length 3 (fxG f), .sl c.length 4 (chG c)], .box [.sl (List.length (St8.f (n.s.err n_2.2))) 3 (fxG (St8.f (n.s.err n_2.2))), .sl (List.length (St8.c (n.s.err n_2.2))) 4 (chG (St8.c (n.s.err n_2.2))), .int .i64 (St8.day (n.s.err n_2.2)), .int .i64 (St8.e (n.s.err n_2.2))]])) (.leaf (.ret [.str n_2.1, .int .i64 0] [.box [.int .u8 x.kind, .str x.rat, .str x.name, .int .i64 x.date, .sl x.sub.length 5 (Ex.exG x.sub)], .box [.sl f.length 3 (fxG f), .sl c.length 4 (chG c)], .box [.sl (List.length (St8.f (n.s.err n_2.2))) 3 (fxG (St8.f (n.s.err n_2.2))), .sl (List.length (St8.c (n.s.err n_2.2))) 4 (chG (St8.c (n.s.err n_2.2))), .int .i64 (St8.day (n.s.err n_2.2)), .int .i64 (St8.e (n.s.err n_2.2))]]))) (by kernel_rfl) ?_
 simp only [Tree.holds, zd]
 have eB : eqL [x.exA, .int .u8 1, .int .i64 day, envA f c] [x.exA, .int .u8 1, .int .i64 day, envA f c] := ⟨⟨⟨rfl, rfl⟩, rfl, rfl, ⟨rfl, rfl⟩, ⟨rfl, rfl, za _ _ _⟩, trivial⟩, ⟨rfl, rfl⟩, ⟨rfl, rfl⟩, ⟨⟨rfl, rfl, za _ _ _⟩, ⟨rfl, rfl, za _ _ _⟩, trivial⟩, trivial⟩
 refine ⟨⟨x, 1, day, f, c⟩, ⟨eB, trivial, trivial, h1, h2, h3⟩, ⟨_, rfl⟩, ?_⟩
 rintro e he
 have he : e = askE x 1 day f c := he
 rw [← he] at hq
 have hv : VPre 1 ⟨⟨f, c, day, e⟩, x⟩ := by
  intro h0
  have h0 : e = 0 := h0
  obtain ⟨_, g2, g3, _⟩ := xC (he.symm.trans h0)
  obtain ⟨g4, g5, _⟩ := uR.1 g3
  refine ⟨g2, g5, ?_⟩
  show f.length < 2 ^ 40
  omega
 refine ⟨⟨⟨f, c, day, e⟩, x⟩, ⟨zdo x, qk f c day e, trivial, hv⟩, vN _ _ _, ?_⟩
 intro r hr
 simp only [evA] at hr
 refine ⟨fun h => ?_, fun h => ?_⟩
 ·have h : r.2 ≠ 0 := by
   intro h0
   have h' : (!decide (r.2 = 0)) = true := h
   rw [h0] at h'; cases h'
  have eq : (if e ≠ 0 then ([], e) else if (x.ev f day).e ≠ 0 then ([], (x.ev f day).e) else ((x.ev f day).v, 0)) = (([] : List UInt8), r.2) := by
   by_cases h0 : e = 0
   ·obtain ⟨q1, _⟩ := hr.2 h0
    rw [if_neg (by rw [h0]; simp), if_pos (by rw [← q1]; exact h), q1]
   ·rw [if_pos h0, hr.1 h0]
  rw [eq] at hq
  exact RetR.scal hq rfl (by simp [resV, St8.err])
 ·have h : r.2 = 0 := by
   have h' : (!decide (r.2 = 0)) = false := h
   simpa using h'
  have h0 : e = 0 := Decidable.byContradiction fun h0 => h0 (by rw [← hr.1 h0]; exact h)
  obtain ⟨q1, k1⟩ := hr.2 h0
  have eq : (if e ≠ 0 then ([], e) else if (x.ev f day).e ≠ 0 then ([], (x.ev f day).e) else ((x.ev f day).v, 0)) = (r.1, 0) := by
   rw [if_neg (by rw [h0]; simp), if_neg (by rw [← q1, h]; simp), k1 h]
  rw [eq] at hq
  exact RetR.scal hq rfl (by simp [resV])
theorem zad : zc Tryz.prog 9 Ja := by
 refine ze (fn := Tryz.f9) (c := Tryz.f9.body.getD .skip) rfl rfl rfl fun k hk O w0 Q hq => ?_
 obtain ⟨x, day, f, c⟩ := k
 obtain ⟨h1, h2, h3⟩ := hk
 replace hq := hq _ rfl
 simp only at h1 h2 h3 hq
 unfold uX at hq
 refine zb.run hmix za1 [] 400 (T := .ex (fun (x_1 : BX) => eqL [AV.agg [AV.int .u8 x.kind, AV.str x.rat, AV.str x.name, AV.int .i64 x.date, AV.sl x.sub.length 5 (Ex.exG x.sub)], AV.int .u8 2, AV.int .i64 day, AV.agg [AV.sl f.length 3 (fxG f), AV.sl c.length 4 (chG c)]] [AV.agg [AV.int .u8 x_1.x.kind, AV.str x_1.x.rat, AV.str x_1.x.name, AV.int .i64 x_1.x.date, AV.sl x_1.x.sub.length 5 (Ex.exG x_1.x.sub)], AV.int .u8 x_1.want, AV.int .i64 x_1.day, AV.agg [AV.sl x_1.f.length 3 (fxG x_1.f), AV.sl x_1.c.length 4 (chG x_1.c)]] ∧ eqH [] [] ∧ 0 = 0 ∧ Ex.size x_1.x < 1099511627776 ∧ Ex.zx x_1.x < 1099511627776 ∧ envP (BX.f x_1, BX.c x_1)) fun n => .all (fun (r : Int) => r = BX.ask n) fun n_1 => .ex (fun (x_1 : VX) => eqL [AV.ptr 0 0, AV.agg [AV.int .u8 x.kind, AV.str x.rat, AV.str x.name, AV.int .i64 x.date, AV.sl x.sub.length 5 (Ex.exG x.sub)]] [AV.ptr 0 0, AV.agg [AV.int .u8 x_1.x.kind, AV.str x_1.x.rat, AV.str x_1.x.name, AV.int .i64 x_1.x.date, AV.sl x_1.x.sub.length 5 (Ex.exG x_1.x.sub)]] ∧ eqH [.box [AV.sl n.f.length 3 (fxG n.f), AV.sl n.c.length 4 (chG n.c), AV.int .i64 n.day, AV.int .i64 n_1]] [.box [AV.sl x_1.s.f.length 3 (fxG x_1.s.f), AV.sl x_1.s.c.length 4 (chG x_1.s.c), AV.int .i64 x_1.s.day, AV.int .i64 x_1.s.e]] ∧ 1 = 1 ∧ VPre (2 : Int) x_1) fun n => .all (fun (r : Bool × Int) => (St8.e n.s ≠ 0 → r.2 = St8.e n.s) ∧ (St8.e n.s = 0 → r.2 = Ev.g (evA n) ∧ (r.2 = 0 → r.1 = Ev.b (evA n)))) fun n_2 => .ite (!decide (St8.e (n.s.err n_2.2) = (0 : Int))) (.leaf (.ret [.bool false, .int .i64 (St8.e (n.s.err n_2.2))] [.box [.int .u8 x.kind, .str x.rat, .str x.name, .int .i64 x.date, .sl x.sub.length 5 (Ex.exG x.sub)], .box [.sl f.length 3 (fxG f), .sl c.length 4 (chG c)], .box [.sl (List.length (St8.f (n.s.err n_2.2))) 3 (fxG (St8.f (n.s.err n_2.2))), .sl (List.length (St8.c (n.s.err n_2.2))) 4 (chG (St8.c (n.s.err n_2.2))), .int .i64 (St8.day (n.s.err n_2.2)), .int .i64 (St8.e (n.s.err n_2.2))]])) (.leaf (.ret [.bool n_2.1, .int .i64 0] [.box [.int .u8 x.kind, .str x.rat, .str x.name, .int .i64 x.date, .sl x.sub.length 5 (Ex.exG x.sub)], .box [.sl f.length 3 (fxG f), .sl c.length 4 (chG c)], .box [.sl (List.length (St8.f (n.s.err n_2.2))) 3 (fxG (St8.f (n.s.err n_2.2))), .sl (List.length (St8.c (n.s.err n_2.2))) 4 (chG (St8.c (n.s.err n_2.2))), .int .i64 (St8.day (n.s.err n_2.2)), .int .i64 (St8.e (n.s.err n_2.2))]]))) (by kernel_rfl) ?_
 simp only [Tree.holds, zd]
 have eB : eqL [x.exA, .int .u8 2, .int .i64 day, envA f c] [x.exA, .int .u8 2, .int .i64 day, envA f c] := ⟨⟨⟨rfl, rfl⟩, rfl, rfl, ⟨rfl, rfl⟩, ⟨rfl, rfl, za _ _ _⟩, trivial⟩, ⟨rfl, rfl⟩, ⟨rfl, rfl⟩, ⟨⟨rfl, rfl, za _ _ _⟩, ⟨rfl, rfl, za _ _ _⟩, trivial⟩, trivial⟩
 refine ⟨⟨x, 2, day, f, c⟩, ⟨eB, trivial, trivial, h1, h2, h3⟩, ⟨_, rfl⟩, ?_⟩
 rintro e he
 have he : e = askE x 2 day f c := he
 rw [← he] at hq
 have hv : VPre 2 ⟨⟨f, c, day, e⟩, x⟩ := by
  intro h0
  have h0 : e = 0 := h0
  obtain ⟨_, g2, g3, _⟩ := xC (he.symm.trans h0)
  obtain ⟨g4, g5, _⟩ := uR.1 g3
  refine ⟨g2, g5, ?_⟩
  show f.length < 2 ^ 40
  omega
 refine ⟨⟨⟨f, c, day, e⟩, x⟩, ⟨zdo x, qk f c day e, trivial, hv⟩, yN _ _ _, ?_⟩
 intro r hr
 simp only [evA] at hr
 refine ⟨fun h => ?_, fun h => ?_⟩
 ·have h : r.2 ≠ 0 := by
   intro h0
   have h' : (!decide (r.2 = 0)) = true := h
   rw [h0] at h'; cases h'
  have eq : (if e ≠ 0 then (false, e) else if (x.ev f day).g ≠ 0 then (false, (x.ev f day).g) else ((x.ev f day).b, 0)) = (false, r.2) := by
   by_cases h0 : e = 0
   ·obtain ⟨q1, _⟩ := hr.2 h0
    rw [if_neg (by rw [h0]; simp), if_pos (by rw [← q1]; exact h), q1]
   ·rw [if_pos h0, hr.1 h0]
  rw [eq] at hq
  exact RetR.scal hq rfl (by simp [resV, St8.err])
 ·have h : r.2 = 0 := by
   have h' : (!decide (r.2 = 0)) = false := h
   simpa using h'
  have h0 : e = 0 := Decidable.byContradiction fun h0 => h0 (by rw [← hr.1 h0]; exact h)
  obtain ⟨q1, k1⟩ := hr.2 h0
  have eq : (if e ≠ 0 then (false, e) else if (x.ev f day).g ≠ 0 then (false, (x.ev f day).g) else ((x.ev f day).b, 0)) = (r.1, 0) := by
   rw [if_neg (by rw [h0]; simp), if_neg (by rw [← q1, h]; simp), k1 h]
  rw [eq] at hq
  exact RetR.scal hq rfl (by simp [resV])
end Go.Proofs.Tryz
end

/- The reference's integers: what its sums and products of digits mean. -/
section
namespace Go.Nov
theorem zg5 {l : List Nat} (h : ∀ p, p < l.length → l.getD p 0 < 10) : Ten.dig l := by
 intro d hd
 obtain ⟨i, hi, rfl⟩ := List.getElem_of_mem hd
 have := h i hi
 simpa [List.getD, hi] using this
theorem zb0 {l : List Nat} {n : Nat} (hn : l.length = n + 1) (h : ∀ p, p < n → l.getD p 0 < 10) (hv : Ten.val l < 10 ^ (n + 1)) : Ten.dig l := by
 refine zg5 fun p hp => ?_
 rcases Nat.lt_or_ge p n with h1 | h1
 ·exact h p h1
 ·have : p = n := by omega
  subst this
  have e := Ten.zh l p
  rw [List.take_of_length_le (by omega)] at e
  rw [Nat.pow_succ] at hv
  rcases Nat.lt_or_ge (l.getD p 0) 10 with h2 | h2
  ·exact h2
  ·have : 10 ^ p * 10 ≤ 10 ^ p * l.getD p 0 := Nat.mul_le_mul_left _ h2
   have hB : Ten.B = 10 := rfl
   rw [hB] at e
   omega
def Ki (p : List Nat × List Nat) (r : List Nat) : Prop := r.length = max p.1.length p.2.length + 1 ∧ Ten.dig r ∧ Ten.val r = Ten.val p.1 + Ten.val p.2
theorem zba {l m o : List Nat} {c n : Nat} (hl : Ten.dig l) (hm : Ten.dig m) (hn : n = max l.length m.length + 1) (he : Ten.val o + 10 ^ n * c = Ten.val (l.take n) + Ten.val (m.take n)) : Ten.val o = Ten.val l + Ten.val m := by
 rw [List.take_of_length_le (by omega), List.take_of_length_le (by omega)] at he
 have h1 := Ten.z8 hl
 have h2 := Ten.z8 hm
 have hB : Ten.B = 10 := rfl
 rw [hB] at h1 h2
 have h3 : 10 ^ l.length ≤ 10 ^ (max l.length m.length) := Nat.pow_le_pow_right (by decide) (by omega)
 have h4 : 10 ^ m.length ≤ 10 ^ (max l.length m.length) := Nat.pow_le_pow_right (by decide) (by omega)
 have h5 : 10 ^ n = 10 ^ (max l.length m.length) * 10 := by rw [hn, Nat.pow_succ]
 rcases Nat.eq_zero_or_pos c with h | h
 ·rw [h] at he; omega
 ·have : 10 ^ n * 1 ≤ 10 ^ n * c := Nat.mul_le_mul_left _ h
  omega
theorem KG {l m : List Nat} (hl : Ten.dig l) (hm : Ten.dig m) : ∃ r, Ki (l, m) r := by
 have h1 := Ten.z8 hl
 have h2 := Ten.z8 hm
 have hB : Ten.B = 10 := rfl
 rw [hB] at h1 h2
 have h3 : 10 ^ l.length ≤ 10 ^ (max l.length m.length) := Nat.pow_le_pow_right (by decide) (by omega)
 have h4 : 10 ^ m.length ≤ 10 ^ (max l.length m.length) := Nat.pow_le_pow_right (by decide) (by omega)
 have h5 : 10 ^ (max l.length m.length + 1) = 10 ^ (max l.length m.length) * 10 := Nat.pow_succ _ _
 exact ⟨decs (max l.length m.length + 1) (Ten.val l + Ten.val m), jR _ _, vy _ _, vn _ _ (by omega)⟩
theorem V1 {vo vl vm p a b c d c' : Nat} (h : vo + p * c = vl + vm) (hd : d + 10 * c' = a + b + c) : vo + p * d + p * 10 * c' = vl + p * a + (vm + p * b) := by
 have := congrArg (p * ·) hd
 simp only [Nat.mul_add] at this
 rw [Nat.mul_assoc]
 omega
def J2 (p : List Nat × List Nat) (r : List Nat) : Prop := r.length = p.1.length + p.2.length ∧ Ten.dig r ∧ Ten.val r = Ten.val p.1 * Ten.val p.2
theorem Kv {l m : List Nat} (hl : Ten.dig l) (hm : Ten.dig m) : Ten.val l * Ten.val m < 10 ^ (l.length + m.length) := by
 have h1 := Ten.z8 hl
 have h2 := Ten.z8 hm
 have hB : Ten.B = 10 := rfl
 rw [hB] at h1 h2
 rw [Nat.pow_add]
 exact Nat.mul_lt_mul_of_lt_of_lt h1 h2
theorem YI {l m : List Nat} (hl : Ten.dig l) (hm : Ten.dig m) : ∃ r, J2 (l, m) r :=
 ⟨decs (l.length + m.length) (Ten.val l * Ten.val m), jR _ _, vy _ _, vn _ _ (Kv hl hm)⟩
theorem YH {o : List Nat} {i j V a vt b : Nat} (hp : i + j < o.length) (h : Ten.val o = V + 10 ^ i * (a * vt)) : Ten.val (o.set (i + j) (o.getD (i + j) 0 + a * b)) = V + 10 ^ i * (a * (vt + 10 ^ j * b)) := by
 have hs := Ten.wR o (i + j) (o.getD (i + j) 0 + a * b) hp
 have hB : Ten.B = 10 := rfl
 rw [hB, Nat.mul_add, Nat.pow_add] at hs
 have e : 10 ^ i * (a * (vt + 10 ^ j * b)) = 10 ^ i * (a * vt) + 10 ^ i * 10 ^ j * (a * b) := by
  rw [Nat.mul_add, Nat.mul_add]
  congr 1
  rw [Nat.mul_assoc, Nat.mul_left_comm a]
 rw [e]
 omega
theorem VV {o : List Nat} {i : Nat} (hi : i + 1 < o.length) : Ten.val ((o.set (i + 1) (o.getD (i + 1) 0 + o.getD i 0 / 10)).set i (o.getD i 0 % 10)) = Ten.val o := by
 have h1 := Ten.wR o (i + 1) (o.getD (i + 1) 0 + o.getD i 0 / 10) hi
 have h2 := Ten.wR (o.set (i + 1) (o.getD (i + 1) 0 + o.getD i 0 / 10)) i (o.getD i 0 % 10) (by simp; omega)
 have e : (o.set (i + 1) (o.getD (i + 1) 0 + o.getD i 0 / 10)).getD i 0 = o.getD i 0 := by
  simp only [List.getD]
  rw [List.getElem?_set_ne (by omega)]
 have hB : Ten.B = 10 := rfl
 rw [e, hB] at h2
 rw [hB, Nat.mul_add, Nat.pow_succ] at h1
 have hdm := Nat.div_add_mod (o.getD i 0) 10
 have : 10 ^ i * o.getD i 0 = 10 ^ i * 10 * (o.getD i 0 / 10) + 10 ^ i * (o.getD i 0 % 10) := by
  rw [Nat.mul_assoc, ← Nat.mul_add, hdm]
 omega
theorem jN {o : List Nat} {i p x : Nat} (hi : i < o.length) : (o.set i x).getD p 0 = if p = i then x else o.getD p 0 := by
 simp only [List.getD]
 by_cases h : p = i
 ·subst h; simp [hi]
 ·rw [List.getElem?_set_ne (by omega), if_neg h]
end Go.Nov
end

/- Cutting a piece of code at a place that is not a loop's head. -/
section
namespace Go.Sx
variable [Stat]
section
variable {O : Nat → Prop} {pin : Nat} {w0 : World} {σ0 : List SE} {P : Program} {fn : Func}
def fstC : Code → Code
 | .seq a _ => a
 | c => c
def sndC : Code → Code
 | .seq _ b => b
 | c => c
def blkC : Code → Code
 | .block _ c => c
 | c => c
def blkI : Code → Nat
 | .block i _ => i
 | _ => 0
theorem zb.cut {M : Option Nat} {ι : Type} {Hs : Nat → KV → Heap → Prop} {R : List AV → Heap → Prop} {k : List Item} {c : Code} {st : St} (S : ι → KV) (H : ι → Heap) (dk : Nat)
  (h1 : qa M P fn O pin w0 σ0 (fun d kv h => if d = dk then ∃ x, LeK pin fn.ntmps kv h (S x) (H x) else Hs d kv h) R (.code c :: .inLoop :: k) st) (hd : jK k = dk)
  (h2 : ∀ x, qa M P fn O pin w0 σ0 Hs R k (mk fn.ntmps (S x) (H x))) : qa M P fn O pin w0 σ0 Hs R (.code c :: k) st := by
 subst hd
 intro w σ a hm
 have := h1 w σ a hm
 simp only [wpK] at this ⊢
 refine wpIn_mono this fun e a' w' he => ?_
 cases e with
 | normal =>
  simp only [wpK] at he
  obtain ⟨st', σ', ⟨kv, h, hh, rfl⟩, hm'⟩ := he
  rw [if_pos trivial] at hh
  obtain ⟨x, hle⟩ := hh
  exact h2 x w' _ a' (hle.le.mod hm')
 | _ =>
  simp only [wpK] at he
  refine qX (fun d a w hd hh => ?_) he
  obtain ⟨st', σ', ⟨kv, h, hh, rfl⟩, hm'⟩ := hh
  rw [if_neg (by omega)] at hh
  exact ⟨_, σ', ⟨kv, h, hh, rfl⟩, hm'⟩
theorem zb.seq {M : Option Nat} {Hs : Nat → KV → Heap → Prop} {R : List AV → Heap → Prop} {k : List Item} {c : Code} {st : St} (hc : c = .seq (fstC c) (sndC c))
  (h : qa M P fn O pin w0 σ0 Hs R (.code (fstC c) :: .code (sndC c) :: k) st) : qa M P fn O pin w0 σ0 Hs R (.code c :: k) st := by
 rw [hc]
 generalize fstC c = a at h
 generalize sndC c = b at h
 intro w σ act hm
 have := h w σ act hm
 simp only [wpK] at this ⊢
 refine wpIn_seq (wpIn_mono this fun e a w h => ?_)
 cases e <;> exact h
theorem zb.block {M : Option Nat} {Hs : Nat → KV → Heap → Prop} {R : List AV → Heap → Prop} {k : List Item} {c : Code} {st : St} (hc : c = .block (blkI c) (blkC c))
  (h : qa M P fn O pin w0 σ0 Hs R (.code (blkC c) :: .inBlock (blkI c) :: k) st) : qa M P fn O pin w0 σ0 Hs R (.code c :: k) st := by
 rw [hc]
 generalize blkC c = a at h
 generalize blkI c = i at h
 intro w σ act hm
 have := h w σ act hm
 simp only [wpK] at this ⊢
 refine wpIn_block (wpIn_mono this fun e a w h => ?_)
 cases e <;> exact h
end
end Go.Sx
end

/- The reference's integers: sums and products of digits. -/
section
set_option maxRecDepth 100000
open Go Go.Sx Go.Proofs Go.Nov
namespace Go.Proofs.Tryz
attribute [local simp] eqKV eqA eqA0 eqH eqB eqL eqL0
noncomputable def K117 : List Go.Sx.Item := [.code (Tryz.f117.body.getD .skip)]
noncomputable def K120 : List Go.Sx.Item := [.code (Tryz.f120.body.getD .skip)]
def Y0 : Ctr := ctrP true (fun p : List Nat × List Nat => [nat6 p.1, nat6 p.2]) (fun p => Ten.dig p.1 ∧ Ten.dig p.2 ∧ p.1.length < 2 ^ 30 ∧ p.2.length < 2 ^ 30) Ki (fun _ r => (nat6 r, []))
def SPp (l m o : List Nat) (c i : Nat) : KV := [(0, nat6 l), (1, nat6 m), (5, .osl 0 1 0 o.length), (6, .int .i64 (c : Int)), (7, .int .i64 (i : Int))]
def GPp : Nat → Option Ctr := fun f => if f = 134 then some (atC) else none
theorem UW : ∀ g c, GPp g = some c → zc Tryz.prog g c := okIf zee (okNone)
theorem Ul : zc Tryz.prog 117 Y0 := by
 refine ze (fn := Tryz.f117) (c := Tryz.f117.body.getD .skip) rfl rfl rfl fun p hp O w0 Q hq => ?_
 obtain ⟨l, m⟩ := p
 obtain ⟨hl, hm, hll, hml⟩ := hp
 simp only at hq hl hm hll hml
 refine zb.run hmix UW [0, 1, 5, 6, 7] 400 (T := .leaf (.loop (Prod.fst (lps K117 0)) (Prod.snd (lps K117 0)) [(0, .sl l.length 1 (natG .i64 l)), (1, .sl m.length 1 (natG .i64 m)), (5, .nils), (6, .int .i64 0), (7, .int .i64 0)] [])) (by kernel_rfl) ?_
 simp only [Tree.holds, zd, inR, lo, hi, Int.toNat_natCast]
 refine zb.bear 5 1 (natG .i64 []) rfl (by decide) (by kernel_rfl) ?_
 refine zb.loop (ι := {z : List Nat × Nat × Nat // z.1.length = z.2.2 ∧ z.2.2 ≤ max l.length m.length + 1 ∧ Ten.dig z.1 ∧ z.2.1 ≤ 1 ∧ Ten.val z.1 + 10 ^ z.2.2 * z.2.1 = Ten.val (l.take z.2.2) + Ten.val (m.take z.2.2)}) (fun z => SPp l m z.1.1 z.1.2.1 z.1.2.2) (fun z => [.arr z.1.1.length 1 (natG .i64 z.1.1)]) (fun z => max l.length m.length + 1 - z.1.2.2) ⟨([], 0, 0), rfl, Nat.zero_le _, by simp [Ten.dig], Nat.zero_le _, by simp [Ten.val]⟩ 0 ?_ ?_ (by kernel_rfl)
 ·refine ⟨by simp [SPp, natS, za, kz], by simp [za], by kernel_rfl, Nat.zero_le _⟩
 ·rintro ⟨⟨o, b, i⟩, hol, hil, hod, hb, hv⟩
  refine zb.run hmix UW [0, 1, 5, 6, 7] 400 (T := .ite (decide ((↑i : Int) ≤ max (↑l.length : Int) (↑m.length : Int))) (.ex (fun (x : List Nat × Nat) => eqL [AV.sl l.length 1 (natG .i64 l), AV.int .i64 i] [AV.sl x.1.length 1 (natG .i64 x.1), AV.int .i64 x.2] ∧ True) fun n => .all (fun (r : Nat) => r = List.getD n.1 n.2 0) fun n => .ex (fun (x : List Nat × Nat) => eqL [AV.sl m.length 1 (natG .i64 m), AV.int .i64 i] [AV.sl x.1.length 1 (natG .i64 x.1), AV.int .i64 x.2] ∧ True) fun n_1 => .all (fun (r : Nat) => r = List.getD n_1.1 n_1.2 0) fun n_2 => .side (inR .i64 ((↑n : Int) + n_2)) (.side (inR .i64 ((↑n : Int) + n_2 + (↑b : Int))) (.side ((10 : Int) ≠ 0) (.side (0 = 0 ∧ o.length ≤ o.length ∧ (o.length + 1) * 8 ≤ 140737488355328) (.side ((10 : Int) ≠ 0 ∧ inR .i64 (Int.tdiv ((↑n : Int) + n_2 + (↑b : Int)) (10 : Int))) (.side (inR .i64 ((↑i : Int) + (1 : Int))) (.leaf (.back 0 [(0, .sl l.length 1 (natG .i64 l)), (1, .sl m.length 1 (natG .i64 m)), (5, .osl 0 1 0 (o.length + 1)), (6, .int .i64 (Int.tdiv ((↑n : Int) + n_2 + (↑b : Int)) (10 : Int))), (7, .int .i64 ((↑i : Int) + (1 : Int)))] [.arr (o.length + 1) 1 (appG o.length (natG .i64 o) (zj (zk 1 [.int .i64 (Int.tmod ((↑n : Int) + n_2 + (↑b : Int)) (10 : Int))]) 0)), .arr 1 1 (zk 1 [.int .i64 (Int.tmod ((↑n : Int) + n_2 + (↑b : Int)) (10 : Int))])])))))))) (.leaf (.ret [.osl 0 1 0 o.length] [.arr o.length 1 (natG .i64 o)]))) (by kernel_rfl) ?_
  simp only [Tree.holds, zd, inR, lo, hi, Int.toNat_natCast]
  simp only at hol hil hod hb hv
  refine ⟨fun hlt => ?_, fun hge => ?_⟩
  ·have hlt : i ≤ max l.length m.length := by have := of_decide_eq_true hlt; omega
   refine ⟨(l, i), ⟨by simp [za], trivial⟩, ⟨_, rfl⟩, ?_⟩
   rintro _ rfl
   refine ⟨(m, i), ⟨by simp [za], trivial⟩, ⟨_, rfl⟩, ?_⟩
   rintro _ rfl
   simp only
   have h1 : l.getD i 0 < 10 := Ten.zz hl i
   have h2 : m.getD i 0 < 10 := Ten.zz hm i
   have step : ∀ d b', d + 10 * b' = l.getD i 0 + m.getD i 0 + b → Ten.val (o ++ [d]) + 10 ^ (i + 1) * b' = Ten.val (l.take (i + 1)) + Ten.val (m.take (i + 1)) := by
    intro d b' h
    rw [Ten.zy, Ten.zh, Ten.zh, hol, Nat.pow_succ]
    have := V1 hv h
    simpa [Ten.val] using this
   obtain ⟨x, hx⟩ : ∃ x, l.getD i 0 = x := ⟨_, rfl⟩
   obtain ⟨y, hy⟩ : ∃ y, m.getD i 0 = y := ⟨_, rfl⟩
   simp only [hx, hy] at h1 h2 step ⊢
   obtain ⟨v, hvv⟩ : ∃ v, x + y + b = v := ⟨_, rfl⟩
   have ev : (x : Int) + (y : Int) + (b : Int) = (v : Int) := by clear step; omega
   have ed : ((v : Int)).tdiv 10 = ((v / 10 : Nat) : Int) := rfl
   have em : ((v : Int)).tmod 10 = ((v % 10 : Nat) : Int) := rfl
   have hv2 : v / 10 ≤ 1 ∧ v % 10 < 10 ∧ v % 10 + 10 * (v / 10) = v := ⟨by clear step; omega, Nat.mod_lt _ (by decide), Nat.mod_add_div _ _⟩
   obtain ⟨g1, g2, g3⟩ := hv2
   rw [ev, ed, em]
   have hstep := step (v % 10) (v / 10) (by rw [g3, hvv])
   clear step
   generalize v / 10 = q at *
   generalize v % 10 = r at *
   refine ⟨by omega, fun _ => ⟨by omega, fun _ => ⟨by decide, fun _ => ⟨⟨trivial, Nat.le_refl _, by omega⟩, fun _ => ⟨⟨by decide, by omega, by omega⟩, fun _ => ⟨by omega, fun _ => ?_⟩⟩⟩⟩⟩⟩
   rw [if_pos trivial]
   refine ⟨⟨(o ++ [r], q, i + 1), by simp [hol], by simp only; omega, Ten.zR.2 ⟨hod, by simp only [Ten.dig, List.mem_singleton]; rintro _ rfl; exact g2⟩, g1, hstep⟩, by show max l.length m.length + 1 - (i + 1) < _; omega, by simp [SPp, natS, za], qy rfl, by kernel_rfl, Nat.zero_le _⟩
  ·have hge : i = max l.length m.length + 1 := by have := of_decide_eq_false hge; omega
   exact RetR.nats (hq o ⟨by rw [hol, hge], hod, zba hl hm hge hv⟩) rfl
def Jz : Ctr := ctrP true (fun p : List Nat × List Nat => [nat6 p.1, nat6 p.2]) (fun p => Ten.dig p.1 ∧ Ten.dig p.2 ∧ 0 < p.1.length ∧ 0 < p.2.length ∧ p.1.length < 2 ^ 30 ∧ p.2.length < 2 ^ 30) J2 (fun _ r => (nat6 r, []))
def STm (l m o : List Nat) (i : Nat) : KV := [(0, nat6 l), (1, nat6 m), (5, .osl 0 1 0 o.length), (6, .int .i64 (i : Int)), (7, .undef), (8, .undef)]
def STm2 (l m o : List Nat) (i j : Nat) : KV := [(0, nat6 l), (1, nat6 m), (5, .osl 0 1 0 o.length), (6, .int .i64 (i : Int)), (7, .int .i64 (j : Int)), (8, .undef)]
def STm3 (o : List Nat) (i : Nat) : KV := [(0, .undef), (1, .undef), (5, .osl 0 1 0 o.length), (6, .undef), (7, .undef), (8, .int .i64 (i : Int))]
theorem Qh {o : List Nat} {i : Nat} {v : Int} {x : Nat} (hv : v = x) (hi : i < o.length) : eqG o.length 1 (updG (natG .i64 o) i 0 [.int .i64 v]) (natG .i64 (o.set i x)) := by
 have := jJ (k := .i64) (l := o) (v := v) (by omega) hi
 subst hv
 simpa using this
theorem WH {O : Nat → Prop} {w0 : World} {Q : AV × Heap → Prop} {Hs : Nat → KV → Heap → Prop} (l m o0 : List Nat) (hl : Ten.dig l) (hm : Ten.dig m) (hll : 0 < l.length) (hml : 0 < m.length) (hl2 : l.length < 2 ^ 30) (hm2 : m.length < 2 ^ 30) (hlen : o0.length = l.length + m.length) (hv : Ten.val o0 = Ten.val l * Ten.val m) (hb : ∀ p, o0.getD p 0 ≤ 81 * 2 ^ 30)
  (hq : ∀ r, J2 (l, m) r → Q (nat6 r, [])) (kv : KV) (h : Heap) (hle : LeK 0 Tryz.f120.ntmps kv h (STm3 o0 0) [.arr o0.length 1 (natG .i64 o0)]) :
  zb Tryz.prog Tryz.f120 O 0 w0 [] Hs (RetR Jz 0 Q) (.code (.loop (lps (inside K120 0) 1).1) :: (lps (inside K120 0) 1).2) (mk Tryz.f120.ntmps kv h) := by
 refine zb.loop (ι := {z : List Nat × Nat // z.1.length = l.length + m.length ∧ z.2 < l.length + m.length ∧ Ten.val z.1 = Ten.val l * Ten.val m ∧ (∀ p, p < z.2 → z.1.getD p 0 < 10) ∧ (∀ p, z.2 < p → z.1.getD p 0 ≤ 81 * 2 ^ 30) ∧ z.1.getD z.2 0 ≤ 2 * (81 * 2 ^ 30)}) (fun z => STm3 z.1.1 z.1.2) (fun z => [.arr z.1.1.length 1 (natG .i64 z.1.1)]) (fun z => l.length + m.length - z.1.2) ⟨(o0, 0), hlen, by simp only; omega, hv, fun p hp => by simp at hp, fun p _ => hb p, by have := hb 0; simp only; omega⟩ 0 hle ?_ (by kernel_rfl)
 rintro ⟨⟨o, i⟩, hol, hil, hov, h10, hM, h2M⟩
 simp only at hol hil hov h10 hM h2M
 by_cases hlt : i + 1 < o.length
 ·refine zb.seq (by kernel_rfl) (zb.cut (ι := Unit) (fun _ => STm3 o i) (fun _ => [.arr o.length 1 (natG .i64 o)]) 1 ?_ (by kernel_rfl) fun _ => ?_)
  ·refine zb.run hmix zo [0, 1, 5, 6, 7, 8] 400 (T := .side (inR .i64 ((↑i : Int) + (1 : Int))) (.ite (decide ((↑i : Int) + (1 : Int) < o.length)) (.leaf (.back 1 [(0, .undef), (1, .undef), (5, .osl 0 1 0 o.length), (6, .undef), (7, .undef), (8, .int .i64 i)] [.arr o.length 1 (natG .i64 o)])) (.leaf (.ret [.osl 0 1 0 o.length] [.arr o.length 1 (natG .i64 o)])))) (by kernel_rfl) ?_
   simp only [Tree.holds, zd, inR, lo, hi, Int.toNat_natCast]
   refine ⟨by omega, fun _ => ⟨fun _ => ?_, fun hno => absurd (of_decide_eq_false hno) (by omega)⟩⟩
   rw [if_pos trivial]
   exact ⟨(), by simp [STm3], by simp [za], by kernel_rfl, Nat.zero_le _⟩
  have hx : o.getD i 0 / 10 ≤ o.getD i 0 := Nat.div_le_self _ _
  have hnext := hM (i + 1) (by omega)
  have c1 : ((i : Int) + 1) = ((i + 1 : Nat) : Int) := by omega
  have hl1 : (o.set (i + 1) (o.getD (i + 1) 0 + o.getD i 0 / 10)).length = o.length := by simp
  refine zb.seq (by kernel_rfl) (zb.block (by kernel_rfl) (zb.seq (by kernel_rfl) (zb.cut (ι := Unit) (fun _ => STm3 (o.set (i + 1) (o.getD (i + 1) 0 + o.getD i 0 / 10)) i) (fun _ => [.arr (o.set (i + 1) (o.getD (i + 1) 0 + o.getD i 0 / 10)).length 1 (natG .i64 (o.set (i + 1) (o.getD (i + 1) 0 + o.getD i 0 / 10)))]) 1 ?_ (by kernel_rfl) fun _ => ?_)))
  ·refine zb.run hmix zo [0, 1, 5, 6, 7, 8] 400 (T := .side (inR .i64 ((↑i : Int) + (1 : Int))) (.side (inR .i64 ((↑i : Int) + (1 : Int))) (.side ((0 : Int) ≤ i + (1 : Int) ∧ (↑i : Int) + (1 : Int) < o.length) (.side ((0 : Int) ≤ i ∧ (↑i : Int) < o.length) (.side ((10 : Int) ≠ 0 ∧ inR .i64 (Int.tdiv (↑(List.getD o (0 + Int.toNat (↑i : Int)) 0) : Int) (10 : Int))) (.side (inR .i64 ((↑(List.getD o (0 + Int.toNat ((↑i : Int) + (1 : Int))) 0) : Int) + Int.tdiv (↑(List.getD o (0 + Int.toNat (↑i : Int)) 0) : Int) (10 : Int))) (.side ((0 : Int) ≤ i + (1 : Int) ∧ (↑i : Int) + (1 : Int) < o.length) (.leaf (.back 1 [(0, .undef), (1, .undef), (5, .osl 0 1 0 o.length), (6, .undef), (7, .undef), (8, .int .i64 i)] [.arr o.length 1 (updG (natG .i64 o) (0 + Int.toNat ((↑i : Int) + (1 : Int))) 0 [.int .i64 ((↑(List.getD o (0 + Int.toNat ((↑i : Int) + (1 : Int))) 0) : Int) + Int.tdiv (↑(List.getD o (0 + Int.toNat (↑i : Int)) 0) : Int) (10 : Int))])]))))))))) (by kernel_rfl) ?_
   simp only [Tree.holds, zd, inR, lo, hi, c1, Int.toNat_natCast, Nat.zero_add]
   have ed : ((o.getD i 0 : Nat) : Int).tdiv 10 = ((o.getD i 0 / 10 : Nat) : Int) := rfl
   rw [ed]
   generalize ho1 : o.getD (i + 1) 0 = x1 at *
   generalize ho0 : o.getD i 0 / 10 = x0 at *
   iterate 7 refine ⟨by omega, fun _ => ?_⟩
   rw [if_pos trivial]
   refine ⟨(), by simp [STm3], ⟨⟨by simp, rfl, Qh (by omega) hlt⟩, trivial⟩, by kernel_rfl, Nat.zero_le _⟩
  obtain ⟨o1, ho1⟩ : ∃ o1, o.set (i + 1) (o.getD (i + 1) 0 + o.getD i 0 / 10) = o1 := ⟨_, rfl⟩
  have hcar := VV hlt
  have g0 : o1.getD i 0 = o.getD i 0 := by rw [← ho1, jN hlt, if_neg (by omega)]
  have g1 : o1.getD (i + 1) 0 = o.getD (i + 1) 0 + o.getD i 0 / 10 := by rw [← ho1, jN hlt, if_pos rfl]
  have gn : ∀ p, p ≠ i + 1 → o1.getD p 0 = o.getD p 0 := fun p hp => by rw [← ho1, jN hlt, if_neg hp]
  have hl2' : o1.length = o.length := by rw [← ho1]; simp
  rw [ho1] at hcar ⊢
  rw [← g0] at hcar
  refine zb.run hmix zo [0, 1, 5, 6, 7, 8] 400 (T := .side ((0 : Int) ≤ i ∧ (↑i : Int) < o1.length) (.side ((10 : Int) ≠ 0) (.side ((0 : Int) ≤ i ∧ (↑i : Int) < o1.length) (.side (inR .i64 ((↑i : Int) + (1 : Int))) (.leaf (.back 0 [(0, .undef), (1, .undef), (5, .osl 0 1 0 o1.length), (6, .undef), (7, .undef), (8, .int .i64 ((↑i : Int) + (1 : Int)))] [.arr o1.length 1 (updG (natG .i64 o1) (0 + Int.toNat (↑i : Int)) 0 [.int .i64 (Int.tmod (↑(List.getD o1 (0 + Int.toNat (↑i : Int)) 0) : Int) (10 : Int))])])))))) (by kernel_rfl) ?_
  simp only [Tree.holds, zd, inR, lo, hi, c1, Int.toNat_natCast, Nat.zero_add]
  have em : ((o1.getD i 0 : Nat) : Int).tmod 10 = ((o1.getD i 0 % 10 : Nat) : Int) := rfl
  rw [em]
  have hm10 : o1.getD i 0 % 10 < 10 := Nat.mod_lt _ (by decide)
  iterate 4 refine ⟨by first | omega | decide, fun _ => ?_⟩
  rw [if_pos trivial]
  refine ⟨⟨(o1.set i (o1.getD i 0 % 10), i + 1), by simp [hl2', hol], by omega, by rw [hcar]; exact hov, fun p hp => ?_, fun p hp => ?_, ?_⟩, by show _ - (i + 1) < _ - i; omega, by simp [STm3], ⟨⟨by simp, rfl, Qh rfl (by omega)⟩, trivial⟩, by kernel_rfl, Nat.zero_le _⟩
  ·show (o1.set i _).getD p 0 < 10
   rw [jN (by omega)]
   split
   ·exact hm10
   ·rw [gn p (by have : p < i + 1 := hp; omega)]; exact h10 p (by have : p < i + 1 := hp; omega)
  ·have hp : i + 1 < p := hp
   show (o1.set i _).getD p 0 ≤ _
   rw [jN (by omega), if_neg (by omega), gn p (by omega)]
   exact hM p (by omega)
  ·show (o1.set i _).getD (i + 1) 0 ≤ _
   rw [jN (by omega), if_neg (by omega), g1]
   have : o.getD i 0 / 10 ≤ 2 * (81 * 2 ^ 30) / 10 := Nat.div_le_div_right h2M
   omega
 ·refine zb.seq (by kernel_rfl) (zb.cut (ι := {x : Unit // False}) (fun _ => []) (fun _ => []) 1 ?_ (by kernel_rfl) fun x => x.2.elim)
  ·refine zb.run hmix zo [0, 1, 5, 6, 7, 8] 400 (T := .side (inR .i64 ((↑i : Int) + (1 : Int))) (.ite (decide ((↑i : Int) + (1 : Int) < o.length)) (.leaf (.back 1 [(0, .undef), (1, .undef), (5, .osl 0 1 0 o.length), (6, .undef), (7, .undef), (8, .int .i64 i)] [.arr o.length 1 (natG .i64 o)])) (.leaf (.ret [.osl 0 1 0 o.length] [.arr o.length 1 (natG .i64 o)])))) (by kernel_rfl) ?_
   simp only [Tree.holds, zd, inR, lo, hi, Int.toNat_natCast]
   refine ⟨by omega, fun _ => ⟨fun hno => absurd (of_decide_eq_true hno) (by omega), fun _ => ?_⟩⟩
   refine RetR.nats (hq o ⟨hol, zb0 (n := i) (by omega) h10 ?_, hov⟩) rfl
   rw [hov]
   have := Kv hl hm
   rw [show i + 1 = l.length + m.length by omega]
   exact this
theorem XZ {o : List Nat} {v : Int} {i d i' : Nat} (hv : v = d) (hi : i < o.length) (hi' : i' = i) : eqH [.arr o.length 1 (updG (natG .i64 o) i' 0 [.int .i64 v])] [.arr (o.set i d).length 1 (natG .i64 (o.set i d))] := heap_set hv hi hi'
theorem XT : zc Tryz.prog 120 Jz := by
 refine ze (fn := Tryz.f120) (c := Tryz.f120.body.getD .skip) rfl rfl rfl fun p hp O w0 Q hq => ?_
 obtain ⟨l, m⟩ := p
 obtain ⟨hl, hm, hll, hml, hl2, hm2⟩ := hp
 simp only at hq hl hm hll hml hl2 hm2
 refine zb.run hmix zo [0, 1, 5, 6, 7, 8] 400 (T := .side (inR .i64 ((↑l.length : Int) + m.length)) (.side ((0 : Int) ≤ l.length + (↑m.length : Int) ∧ (↑l.length : Int) + m.length ≤ (↑l.length : Int) + m.length ∧ inR .i64 ((↑l.length : Int) + m.length) ∧ Int.toNat ((↑l.length : Int) + m.length) * 8 ≤ 140737488355328) (.leaf (.loop (Prod.fst (lps K120 0)) (Prod.snd (lps K120 0)) [(0, .sl l.length 1 (natG .i64 l)), (1, .sl m.length 1 (natG .i64 m)), (5, .osl 0 1 0 (Int.toNat ((↑l.length : Int) + m.length))), (6, .int .i64 0), (7, .undef), (8, .undef)] [.arr (Int.toNat ((↑l.length : Int) + m.length)) 1 (wU [.int .i64 0])])))) (by kernel_rfl) ?_
 have es : ((l.length : Int) + (m.length : Int)) = ((l.length + m.length : Nat) : Int) := by omega
 simp only [Tree.holds, zd, inR, lo, hi, es, Int.toNat_natCast]
 refine ⟨by omega, fun _ => ⟨by omega, fun _ => ?_⟩⟩
 have hrep : ∀ p, (List.replicate (l.length + m.length) 0).getD p 0 = 0 := fun p => by
  simp only [List.getD, List.getElem?_replicate]
  split <;> rfl
 refine zb.loop (ι := {z : List Nat × Nat // z.1.length = l.length + m.length ∧ z.2 ≤ l.length ∧ Ten.val z.1 = Ten.val (l.take z.2) * Ten.val m ∧ ∀ p, z.1.getD p 0 ≤ 81 * z.2}) (fun z => STm l m z.1.1 z.1.2) (fun z => [.arr z.1.1.length 1 (natG .i64 z.1.1)]) (fun z => l.length - z.1.2) ⟨(List.replicate (l.length + m.length) 0, 0), by simp, Nat.zero_le _, by simp [Ten.qo, Ten.val], fun p => by simp only [hrep]; exact Nat.zero_le _⟩ 0 ?_ ?_ (by kernel_rfl)
 ·exact ⟨by simp [STm, natS, za], by simp [kQ], by kernel_rfl, Nat.zero_le _⟩
 rintro ⟨⟨o, i⟩, hol, hil, hov, hob⟩
 simp only at hol hil hov hob
 refine zb.run hmix zo [0, 1, 5, 6, 7, 8] 400 (T := .ite (decide ((↑i : Int) < l.length)) (.leaf (.loop (Prod.fst (lps (inside K120 0) 0)) (Prod.snd (lps (inside K120 0) 0)) [(0, .sl l.length 1 (natG .i64 l)), (1, .sl m.length 1 (natG .i64 m)), (5, .osl 0 1 0 o.length), (6, .int .i64 i), (7, .int .i64 0), (8, .undef)] [.arr o.length 1 (natG .i64 o)])) (.leaf (.loop (Prod.fst (lps (inside K120 0) 1)) (Prod.snd (lps (inside K120 0) 1)) [(0, .sl l.length 1 (natG .i64 l)), (1, .sl m.length 1 (natG .i64 m)), (5, .osl 0 1 0 o.length), (6, .int .i64 i), (7, .undef), (8, .int .i64 0)] [.arr o.length 1 (natG .i64 o)]))) (by kernel_rfl) ?_
 simp only [Tree.holds, zd, inR, lo, hi, Int.toNat_natCast]
 refine ⟨fun hlt => ?_, fun hge => ?_⟩
 ·have hlt : i < l.length := by have := of_decide_eq_true hlt; omega
  refine zb.loop (ι := {z : List Nat × Nat // z.1.length = l.length + m.length ∧ z.2 ≤ m.length ∧ Ten.val z.1 = Ten.val (l.take i) * Ten.val m + 10 ^ i * (l.getD i 0 * Ten.val (m.take z.2)) ∧ (∀ p, z.1.getD p 0 ≤ 81 * i + 81) ∧ ∀ p, i + z.2 ≤ p → z.1.getD p 0 ≤ 81 * i}) (fun z => STm2 l m z.1.1 i z.1.2) (fun z => [.arr z.1.1.length 1 (natG .i64 z.1.1)]) (fun z => m.length - z.1.2) ⟨(o, 0), hol, Nat.zero_le _, by simp [hov, Ten.val], fun p => by have := hob p; simp only; omega, fun p _ => hob p⟩ 1 ?_ ?_ (by kernel_rfl)
  ·exact ⟨by simp [STm2, natS, za], by simp [za], by kernel_rfl, Nat.zero_le _⟩
  rintro ⟨⟨o2, j⟩, hol2, hjl, hov2, hob2, hob3⟩
  simp only at hol2 hjl hov2 hob2 hob3
  have e1 : ((i : Int) + (j : Int)) = ((i + j : Nat) : Int) := by omega
  refine zb.run hmix zo [0, 1, 5, 6, 7, 8] 400 (T := .ite (decide ((↑j : Int) < m.length)) (.side (inR .i64 ((↑i : Int) + j)) (.side (inR .i64 ((↑i : Int) + j)) (.side ((0 : Int) ≤ i + (↑j : Int) ∧ (↑i : Int) + j < (↑o2.length : Int)) (.side ((0 : Int) ≤ i ∧ (↑i : Int) < l.length) (.side ((0 : Int) ≤ j ∧ (↑j : Int) < m.length) (.side (inR .i64 ((↑(List.getD l (Int.toNat (↑i : Int)) 0) : Int) * (↑(List.getD m (Int.toNat (↑j : Int)) 0) : Int))) (.side (inR .i64 ((↑(List.getD o2 (0 + Int.toNat ((↑i : Int) + j)) 0) : Int) + (↑(List.getD l (Int.toNat (↑i : Int)) 0) : Int) * (↑(List.getD m (Int.toNat (↑j : Int)) 0) : Int))) (.side ((0 : Int) ≤ i + (↑j : Int) ∧ (↑i : Int) + j < (↑o2.length : Int)) (.side (inR .i64 ((↑j : Int) + (1 : Int))) (.leaf (.back 1 [(0, .sl l.length 1 (natG .i64 l)), (1, .sl m.length 1 (natG .i64 m)), (5, .osl 0 1 0 o2.length), (6, .int .i64 i), (7, .int .i64 ((↑j : Int) + (1 : Int))), (8, .undef)] [.arr o2.length 1 (updG (natG .i64 o2) (0 + Int.toNat ((↑i : Int) + j)) 0 [.int .i64 ((↑(List.getD o2 (0 + Int.toNat ((↑i : Int) + j)) 0) : Int) + (↑(List.getD l (Int.toNat (↑i : Int)) 0) : Int) * (↑(List.getD m (Int.toNat (↑j : Int)) 0) : Int))])]))))))))))) (.side (inR .i64 ((↑i : Int) + (1 : Int))) (.leaf (.back 0 [(0, .sl l.length 1 (natG .i64 l)), (1, .sl m.length 1 (natG .i64 m)), (5, .osl 0 1 0 o2.length), (6, .int .i64 ((↑i : Int) + (1 : Int))), (7, .int .i64 j), (8, .undef)] [.arr o2.length 1 (natG .i64 o2)])))) (by kernel_rfl) ?_
  simp only [Tree.holds, zd, inR, lo, hi, e1, Int.toNat_natCast, Nat.zero_add]
  have hx : l.getD i 0 < 10 := Ten.zz hl i
  have hy : m.getD j 0 < 10 := Ten.zz hm j
  have hxy : l.getD i 0 * m.getD j 0 ≤ 9 * 9 := Nat.mul_le_mul (by omega) (by omega)
  have e3 : (((l.getD i 0 : Nat) : Int)) * ((m.getD j 0 : Nat) : Int) = ((l.getD i 0 * m.getD j 0 : Nat) : Int) := by simp
  rw [e3]
  have hob3' := hob3 (i + j) (Nat.le_refl _)
  refine ⟨fun hj => ?_, fun hj => ?_⟩
  ·have hj : j < m.length := by have := of_decide_eq_true hj; omega
   have hp : i + j < o2.length := by omega
   have hcell := YH (o := o2) (i := i) (j := j) (V := Ten.val (l.take i) * Ten.val m) (a := l.getD i 0) (vt := Ten.val (m.take j)) (b := m.getD j 0) hp hov2
   have htk := Ten.zh m j
   have hB : Ten.B = 10 := rfl
   rw [hB] at htk
   rw [← htk] at hcell
   generalize hxyv : l.getD i 0 * m.getD j 0 = xy at *
   iterate 9 refine ⟨by omega, fun _ => ?_⟩
   rw [if_pos trivial]
   refine ⟨⟨(o2.set (i + j) (o2.getD (i + j) 0 + xy), j + 1), by simpa using hol2, hj, hcell, fun p => ?_, fun p hp2 => ?_⟩, by show _ - (j + 1) < _ - j; omega, by simp [STm2, natS, za], XZ (by omega) hp rfl, by kernel_rfl, Nat.zero_le _⟩
   ·show (o2.set _ _).getD p 0 ≤ _
    rw [jN hp]
    split
    ·omega
    ·exact hob2 p
   ·have hp2 : i + (j + 1) ≤ p := hp2
    show (o2.set _ _).getD p 0 ≤ _
    rw [jN hp, if_neg (by omega)]
    exact hob3 p (by omega)
  ·have hj : j = m.length := by have := of_decide_eq_false hj; omega
   subst hj
   refine ⟨by omega, fun _ => ?_⟩
   rw [if_neg (by decide), if_pos trivial]
   refine ⟨⟨(o2, i + 1), hol2, hlt, ?_, fun p => by have := hob2 p; simp only; omega⟩, by show _ - (i + 1) < _ - i; omega, by simp [STm, natS, za], by simp [za], by kernel_rfl, Nat.zero_le _⟩
   show Ten.val o2 = Ten.val (l.take (i + 1)) * Ten.val m
   rw [List.take_length] at hov2
   have htk := Ten.zh l i
   have hB : Ten.B = 10 := rfl
   rw [hB] at htk
   rw [hov2, htk, Nat.add_mul, Nat.mul_assoc]
 ·have hge : i = l.length := by have := of_decide_eq_false hge; omega
  subst hge
  rw [List.take_length] at hov
  exact WH l m o hl hm hll hml hl2 hm2 hol hov (fun p => by have := hob p; omega) hq _ _ ⟨by simp [STm3], by simp [za], by kernel_rfl, Nat.zero_le _⟩
end Go.Proofs.Tryz
end

/- The reference's integers: sums, products, quotients, comparisons. -/
section
set_option maxRecDepth 100000
open Go Go.Sx Go.Proofs Go.Nov
namespace Go.Proofs.Tryz
attribute [local simp] eqKV eqA eqA0 eqH eqB eqL eqL0
noncomputable def K116 : List Go.Sx.Item := [.code (Tryz.f116.body.getD .skip)]
noncomputable def K135 : List Go.Sx.Item := [.code (Tryz.f135.body.getD .skip)]
noncomputable def K85 : List Go.Sx.Item := [.code (Tryz.f85.body.getD .skip)]
noncomputable def K86 : List Go.Sx.Item := [.code (Tryz.f86.body.getD .skip)]
noncomputable def K89 : List Go.Sx.Item := [.code (Tryz.f89.body.getD .skip)]
noncomputable def K136 : List Go.Sx.Item := [.code (Tryz.f136.body.getD .skip)]
theorem Kq (neg : Bool) (x : Nat) : errI (q5 neg x) = (wr neg x).2 ∧ ((wr neg x).2 = 0 → q5 neg x = (wr neg x).1) := by
  unfold q5 wr
  by_cases h0 : x = 0
  · rw [if_pos h0, if_pos h0]; exact ⟨rfl, fun _ => rfl⟩
  · rw [if_neg h0, if_neg h0]
    have e : errI (sgn neg (txt x)) = if 1000 < (dec x).length then 14 else 0 := by
      unfold errI
      rw [Qf h0]
      simp only [WC h0, if_true]
      rw [kS h0]
    by_cases h1 : 1000 < (dec x).length
    · rw [if_pos h1] at e ⊢
      exact ⟨e, fun h => (by cases h)⟩
    · rw [if_neg h1] at e ⊢
      exact ⟨e, fun _ => rfl⟩
theorem yF {neg : Bool} {x : Nat} (h : room x) : q5 neg x = (wr neg x).1 := (Kq neg x).2 (wg h)
theorem Ur (neg : Bool) (x : Nat) : (q5 neg x).length ≤ 1 + (dec x).length := by
  unfold q5
  by_cases h0 : x = 0
  · rw [if_pos h0]; simp
  · rw [if_neg h0]
    have := Ks neg (txt x)
    rw [kS h0] at this
    omega
def zeb : Ctr := ctrP true (fun p : List Nat × Bool => [nat6 p.1, .bool p.2]) (fun p => Ten.dig p.1 ∧ p.1.length < 2 ^ 31) (fun p r => r = wr p.2 (Ten.val p.1)) (fun _ r => (.tup [.str r.1, .int .i64 r.2], []))
def GRr : Nat → Option Ctr := fun f => if f = 132 then some (yK) else if f = 133 then some (Ju) else none
theorem zf1 : ∀ g c, GRr g = some c → zc Tryz.prog g c := okIf ya (okIf Qd (okNone))
theorem zdc : zc Tryz.prog 116 zeb := by
  refine ze (fn := Tryz.f116) (c := Tryz.f116.body.getD .skip) rfl rfl rfl fun p hp O w0 Q hq => ?_
  obtain ⟨d, neg⟩ := p
  obtain ⟨hd, hl⟩ := hp
  replace hq := hq _ rfl
  simp only at hd hl hq
  refine zb.run hmix zf1 [] 400 (T := .ex (fun (x : List Nat × Bool) => eqL [AV.sl d.length 1 (natG .i64 d), AV.bool neg] [AV.sl x.1.length 1 (natG .i64 x.1), AV.bool x.2] ∧ Ten.dig x.1 ∧ x.1.length < 1099511627776) fun n => .all (fun (r : List UInt8) => r = q5 n.2 (Ten.val n.1)) fun n => .ex (fun (x : List UInt8) => eqL [AV.str n] [AV.str x] ∧ x.length < 1099511627776) fun n_1 => .all (fun (r : Int) => r = errI n_1) fun n_2 => .ite (!decide (n_2 = 0)) (.leaf (.ret [.str (Array.toList #[]), .int .i64 14] [])) (.leaf (.ret [.str n, .int .i64 0] []))) (by kernel_rfl) ?_
  simp only [Tree.holds, zd]
  have hlen : (dec (Ten.val d)).length ≤ d.length := vK (by have := Ten.z8 hd; have hB : Ten.B = 10 := rfl; rw [hB] at this; exact this)
  have htl := Ur neg (Ten.val d)
  obtain ⟨t1, t2⟩ := Kq neg (Ten.val d)
  refine ⟨(d, neg), ⟨⟨⟨rfl, rfl, za _ _ _⟩, rfl, trivial⟩, hd, by show d.length < _; omega⟩, ⟨_, rfl⟩, ?_⟩
  rintro _ rfl
  refine ⟨q5 neg (Ten.val d), ⟨by simp, by omega⟩, ⟨_, rfl⟩, ?_⟩
  intro e he
  rw [t1] at he
  refine ⟨fun h => ?_, fun h => ?_⟩
  · have h : e ≠ 0 := by simpa using h
    rcases QQ neg (Ten.val d) with g | g
    · exact absurd (he.trans g) h
    · rw [g] at hq
      exact RetR.scal hq rfl (by simp [resV])
  · have h : e = 0 := by simpa using h
    have g : (wr neg (Ten.val d)).2 = 0 := by rw [← he, h]
    have e2 : wr neg (Ten.val d) = (q5 neg (Ten.val d), 0) := by rw [t2 g, ← g]
    rw [e2] at hq
    exact RetR.scal hq rfl (by simp [resV])
def zei : Ctr := ctrP true (fun s : List UInt8 => [.str s]) (fun s => errI s = 0 ∧ s.length < 2 ^ 40) (fun s r => r = (wz (-zI s)).1) (fun _ r => (.str r, []))
def GRn : Nat → Option Ctr := fun f => if f = 132 then some (yK) else if f = 112 then some (wX) else none
theorem zfp : ∀ g c, GRn g = some c → zc Tryz.prog g c := okIf ya (okIf vq (okNone))
theorem zg4 {s : List UInt8} (h : errI s = 0) : (wz (-zI s)).1 = q5 (!negI s) (numI s) := by
  rw [yF (qD h), Qk]
  congr 2
  unfold zI
  cases negI s <;> simp
theorem zdg : zc Tryz.prog 135 zei := by
  refine ze (fn := Tryz.f135) (c := Tryz.f135.body.getD .skip) rfl rfl rfl fun s hp O w0 Q hq => ?_
  obtain ⟨he, hl⟩ := hp
  replace hq := hq _ rfl
  refine zb.run hmix zfp [] 400 (T := .ex (fun (x : List UInt8) => eqL [AV.str s] [AV.str x] ∧ x.length < 1099511627776) fun n => .all (fun (r : List Nat × Bool × Bool) => r = digR n) fun n => .ex (fun (x : List Nat × Bool) => eqL [AV.sl n.1.length 1 (natG .i64 n.1), AV.bool !Prod.fst n.2] [AV.sl x.1.length 1 (natG .i64 x.1), AV.bool x.2] ∧ Ten.dig x.1 ∧ x.1.length < 1099511627776) fun n => .all (fun (r : List UInt8) => r = q5 n.2 (Ten.val n.1)) fun n => .leaf (.ret [.str n] [])) (by kernel_rfl) ?_
  simp only [Tree.holds, zd]
  obtain ⟨a1, a2, a3, a4⟩ := j2 he
  rw [zg4 he, ← a4] at hq
  refine ⟨s, ⟨by simp, hl⟩, ⟨_, rfl⟩, ?_⟩
  rintro _ rfl
  rw [a1]
  refine ⟨(dg (parse s).2, !(parse s).1), ⟨⟨⟨rfl, rfl, za _ _ _⟩, rfl, trivial⟩, a2, by show (dg (parse s).2).length < _; omega⟩, ⟨_, rfl⟩, ?_⟩
  rintro _ rfl
  exact RetR.scal hq rfl (by simp [resV, negI])
def GRa : Nat → Option Ctr := fun f => if f = 115 then some (KU) else if f = 112 then some (wX) else if f = 117 then some (Y0) else if f = 119 then some (Jn) else if f = 118 then some (xG) else if f = 116 then some (zeb) else if f = 120 then some (Jz) else if f = 130 then some (U2) else if f = 131 then some (W0) else if f = 132 then some (yK) else none
theorem QH : ∀ g c, GRa g = some c → zc Tryz.prog g c := okIf Jo (okIf vq (okIf Ul (okIf Qq (okIf xp (okIf zdc (okIf XT (okIf KE (okIf Kr (okIf ya (okNone))))))))))
def zbi : Ctr := ctrP true (fun p : List UInt8 × List UInt8 => [.str p.1, .str p.2]) (fun p => p.1.length < 2 ^ 40 ∧ p.2.length < 2 ^ 40) (fun p r => r = addI p.1 p.2) (fun _ r => (.tup [.str r.1, .int .i64 r.2], []))
def YG : Ctr := ctrP true (fun p : List UInt8 × List UInt8 => [.str p.1, .str p.2]) (fun p => p.1.length < 2 ^ 40 ∧ p.2.length < 2 ^ 40) (fun p r => r = mulI p.1 p.2) (fun _ r => (.tup [.str r.1, .int .i64 r.2], []))
def Vn : Ctr := ctrP true (fun p : List UInt8 × List UInt8 => [.str p.1, .str p.2]) (fun p => p.1.length < 2 ^ 40 ∧ p.2.length < 2 ^ 40) (fun p r => r = wP p.1 p.2) (fun _ r => (.tup [.int .i64 r.1, .int .i64 r.2], []))
def rdmC : Ctr := ctrP true (fun p : List UInt8 × List UInt8 => [.str p.1, .str p.2]) (fun p => p.1.length < 2 ^ 40 ∧ p.2.length < 2 ^ 40) (fun p r => r = dmI p.1 p.2) (fun _ r => (.tup [.str r.1, .str r.2.1, .int .i64 r.2.2], []))
theorem eqL2 (a b : List Nat) : eqL [AV.sl a.length 1 (natG .i64 a), AV.sl b.length 1 (natG .i64 b)] [nat6 a, nat6 b] := ⟨⟨rfl, rfl, za _ _ _⟩, ⟨rfl, rfl, za _ _ _⟩, trivial⟩
theorem eqLb (a : List Nat) (b : Bool) : eqL [AV.sl a.length 1 (natG .i64 a), .bool b] [nat6 a, .bool b] := ⟨⟨rfl, rfl, za _ _ _⟩, rfl, trivial⟩
theorem zdj : zc Tryz.prog 85 zbi := by
  refine ze (fn := Tryz.f85) (c := Tryz.f85.body.getD .skip) rfl rfl rfl fun p hp O w0 Q hq => ?_
  obtain ⟨s, t⟩ := p
  obtain ⟨hs, ht⟩ := hp
  replace hq := hq _ rfl
  simp only at hs ht hq
  refine zb.run hmix QH [] 400 (T := .ex (fun (x : List UInt8 × List UInt8) => eqL [AV.str s, AV.str t] [AV.str x.1, AV.str x.2] ∧ x.1.length < 1099511627776 ∧ x.2.length < 1099511627776) fun n => .all (fun (r : Int) => r = zl n.1 n.2) fun n => .ite (!decide (n = 0)) (.leaf (.ret [.str (Array.toList #[]), .int .i64 n] [])) (.ex (fun (x : List UInt8) => eqL [AV.str s] [AV.str x] ∧ x.length < 1099511627776) fun n => .all (fun (r : List Nat × Bool × Bool) => r = digR n) fun n => .ex (fun (x : List UInt8) => eqL [AV.str t] [AV.str x] ∧ x.length < 1099511627776) fun n_1 => .all (fun (r : List Nat × Bool × Bool) => r = digR n_1) fun n_2 => .ite (n.2.1 == n_2.2.1) (.ex (fun (x : List Nat × List Nat) => eqL [AV.sl n.1.length 1 (natG .i64 n.1), AV.sl n_2.1.length 1 (natG .i64 n_2.1)] [AV.sl x.1.length 1 (natG .i64 x.1), AV.sl x.2.length 1 (natG .i64 x.2)] ∧ Ten.dig x.1 ∧ Ten.dig x.2 ∧ x.1.length < 1073741824 ∧ x.2.length < 1073741824) fun n_3 => .all (Ki n_3) fun n_4 => .ex (fun (x : List Nat × Bool) => eqL [AV.sl n_4.length 1 (natG .i64 n_4), AV.bool (n.2.1)] [AV.sl x.1.length 1 (natG .i64 x.1), AV.bool x.2] ∧ Ten.dig x.1 ∧ x.1.length < 2147483648) fun n => .all (fun (r : List UInt8 × Int) => r = wr n.2 (Ten.val n.1)) fun n => .leaf (.ret [.str n.1, .int .i64 n.2] [])) (.ex (fun (x : List Nat × List Nat) => eqL [AV.sl n.1.length 1 (natG .i64 n.1), AV.sl n_2.1.length 1 (natG .i64 n_2.1)] [AV.sl x.1.length 1 (natG .i64 x.1), AV.sl x.2.length 1 (natG .i64 x.2)] ∧ Ten.dig x.1 ∧ Ten.dig x.2 ∧ x.1.length < 4611686018427387904 ∧ x.2.length < 4611686018427387904) fun n_3 => .all (fun (r : Int) => r = cmpN (Ten.val n_3.1) (Ten.val n_3.2)) fun n_4 => .ite (decide ((0 : Int) ≤ n_4)) (.ex (fun (x : List Nat × List Nat) => eqL [AV.sl n.1.length 1 (natG .i64 n.1), AV.sl n_2.1.length 1 (natG .i64 n_2.1)] [AV.sl x.1.length 1 (natG .i64 x.1), AV.sl x.2.length 1 (natG .i64 x.2)] ∧ Ten.dig x.1 ∧ Ten.dig x.2 ∧ x.1.length < 1099511627776 ∧ Ten.val x.2 ≤ Ten.val x.1) fun n_5 => .all (fun (r : List Nat) => r.length = n_5.1.length ∧ Ten.dig r ∧ Ten.val r + Ten.val n_5.2 = Ten.val n_5.1) fun n_6 => .ex (fun (x : List Nat × Bool) => eqL [AV.sl n_6.length 1 (natG .i64 n_6), AV.bool (n.2.1)] [AV.sl x.1.length 1 (natG .i64 x.1), AV.bool x.2] ∧ Ten.dig x.1 ∧ x.1.length < 2147483648) fun n => .all (fun (r : List UInt8 × Int) => r = wr n.2 (Ten.val n.1)) fun n => .leaf (.ret [.str n.1, .int .i64 n.2] [])) (.ex (fun (x : List Nat × List Nat) => eqL [AV.sl n_2.1.length 1 (natG .i64 n_2.1), AV.sl n.1.length 1 (natG .i64 n.1)] [AV.sl x.1.length 1 (natG .i64 x.1), AV.sl x.2.length 1 (natG .i64 x.2)] ∧ Ten.dig x.1 ∧ Ten.dig x.2 ∧ x.1.length < 1099511627776 ∧ Ten.val x.2 ≤ Ten.val x.1) fun n => .all (fun (r : List Nat) => r.length = n.1.length ∧ Ten.dig r ∧ Ten.val r + Ten.val n.2 = Ten.val n.1) fun n => .ex (fun (x : List Nat × Bool) => eqL [AV.sl n.length 1 (natG .i64 n), AV.bool (n_2.2.1)] [AV.sl x.1.length 1 (natG .i64 x.1), AV.bool x.2] ∧ Ten.dig x.1 ∧ x.1.length < 2147483648) fun n => .all (fun (r : List UInt8 × Int) => r = wr n.2 (Ten.val n.1)) fun n => .leaf (.ret [.str n.1, .int .i64 n.2] []))))) (by kernel_rfl) ?_
  simp only [Tree.holds, zd]
  refine ⟨(s, t), ⟨by simp, hs, ht⟩, ⟨_, rfl⟩, ?_⟩
  rintro _ rfl
  simp only
  refine ⟨fun he => ?_, fun he => ?_⟩
  · have he : zl s t ≠ 0 := by
      intro h; simp [h] at he
    have e : addI s t = ([], zl s t) := if_neg he
    rw [e] at hq
    exact RetR.scal hq rfl (by simp [resV])
  have he : zl s t = 0 := by
    refine Decidable.byContradiction fun h => ?_
    simp [h] at he
  obtain ⟨h1, h2⟩ := zf.1 he
  have e : addI s t = wr (sumS (negI s) (numI s) (negI t) (numI t)).1 (sumS (negI s) (numI s) (negI t) (numI t)).2 := if_pos he
  rw [e] at hq
  refine ⟨s, ⟨by simp, hs⟩, ⟨_, rfl⟩, ?_⟩
  rintro _ rfl
  refine ⟨t, ⟨by simp, ht⟩, ⟨_, rfl⟩, ?_⟩
  rintro _ rfl
  obtain ⟨a1, a2, a3, a4⟩ := j2 h1
  obtain ⟨b1, b2, b3, b4⟩ := j2 h2
  rw [a1, b1]
  have ea : (parse s).1 = negI s := rfl
  have eb : (parse t).1 = negI t := rfl
  simp only [ea, eb]
  rw [← a4, ← b4] at hq
  generalize dg (parse s).2 = x at *
  generalize dg (parse t).2 = y at *
  generalize negI s = m at *
  generalize negI t = n at *
  have fin : ∀ (d : List Nat) (b : Bool), wr b (Ten.val d) = wr (sumS m (Ten.val x) n (Ten.val y)).1 (sumS m (Ten.val x) n (Ten.val y)).2 → ∀ r, r = wr b (Ten.val d) → RetR zbi 0 Q [.str r.1, .int .i64 r.2] [] := by
    rintro d b h _ rfl
    rw [← h] at hq
    exact RetR.scal hq rfl (by simp [resV])
  refine ⟨fun h => ?_, fun h => ⟨(x, y), ⟨eqL2 x y, a2, b2, by show x.length < _; omega, by show y.length < _; omega⟩, ⟨_, rfl⟩, ?_⟩⟩
  · have h : m = n := by simpa using h
    refine ⟨(x, y), ⟨eqL2 x y, a2, b2, by show x.length < _; omega, by show y.length < _; omega⟩, KG a2 b2, ?_⟩
    rintro z ⟨g1, g2, g3⟩
    simp only at g1 g3
    refine ⟨(z, m), ⟨eqLb z m, g2, by show z.length < _; omega⟩, ⟨_, rfl⟩, ?_⟩
    exact fin z m (by rw [g3]; unfold sumS; rw [if_pos h])
  · have h : ¬ m = n := by simpa using h
    rintro _ rfl
    simp only
    refine ⟨fun g => ?_, fun g => ?_⟩
    · have g : Ten.val y ≤ Ten.val x := ut.1 (of_decide_eq_true g)
      refine ⟨(x, y), ⟨eqL2 x y, a2, b2, by show x.length < _; omega, g⟩, xA a2 g, ?_⟩
      rintro z ⟨g1, g2, g3⟩
      simp only at g1 g3
      refine ⟨(z, m), ⟨eqLb z m, g2, by show z.length < _; omega⟩, ⟨_, rfl⟩, ?_⟩
      exact fin z m (by unfold sumS; rw [if_neg h, if_pos g]; congr 1; omega)
    · have g : ¬ Ten.val y ≤ Ten.val x := fun h3 => of_decide_eq_false g (ut.2 h3)
      refine ⟨(y, x), ⟨eqL2 y x, b2, a2, by show y.length < _; omega, by show Ten.val x ≤ Ten.val y; omega⟩, xA b2 (by show Ten.val x ≤ Ten.val y; omega), ?_⟩
      rintro z ⟨g1, g2, g3⟩
      simp only at g1 g3
      refine ⟨(z, n), ⟨eqLb z n, g2, by show z.length < _; omega⟩, ⟨_, rfl⟩, ?_⟩
      exact fin z n (by unfold sumS; rw [if_neg h, if_neg g]; congr 1; omega)
theorem zal {s : List UInt8} (h : errI s = 0) : 0 < (dg (parse s).2).length := by
  obtain ⟨_, _, h3, _⟩ := ku h
  rw [vE]
  exact List.length_pos_iff.2 h3
theorem KC : zc Tryz.prog 86 YG := by
  refine ze (fn := Tryz.f86) (c := Tryz.f86.body.getD .skip) rfl rfl rfl fun p hp O w0 Q hq => ?_
  obtain ⟨s, t⟩ := p
  obtain ⟨hs, ht⟩ := hp
  replace hq := hq _ rfl
  simp only at hs ht hq
  refine zb.run hmix QH [] 400 (T := .ex (fun (x : List UInt8 × List UInt8) => eqL [AV.str s, AV.str t] [AV.str x.1, AV.str x.2] ∧ x.1.length < 1099511627776 ∧ x.2.length < 1099511627776) fun n => .all (fun (r : Int) => r = zl n.1 n.2) fun n => .ite (!decide (n = 0)) (.leaf (.ret [.str (Array.toList #[]), .int .i64 n] [])) (.ex (fun (x : List UInt8) => eqL [AV.str s] [AV.str x] ∧ x.length < 1099511627776) fun n => .all (fun (r : List Nat × Bool × Bool) => r = digR n) fun n => .ex (fun (x : List UInt8) => eqL [AV.str t] [AV.str x] ∧ x.length < 1099511627776) fun n_1 => .all (fun (r : List Nat × Bool × Bool) => r = digR n_1) fun n_2 => .ex (fun (x : List Nat × List Nat) => eqL [AV.sl n.1.length 1 (natG .i64 n.1), AV.sl n_2.1.length 1 (natG .i64 n_2.1)] [AV.sl x.1.length 1 (natG .i64 x.1), AV.sl x.2.length 1 (natG .i64 x.2)] ∧ Ten.dig x.1 ∧ Ten.dig x.2 ∧ 0 < x.1.length ∧ 0 < x.2.length ∧ x.1.length < 1073741824 ∧ x.2.length < 1073741824) fun n_3 => .all (J2 n_3) fun n_4 => .ex (fun (x : List Nat × Bool) => eqL [AV.sl n_4.length 1 (natG .i64 n_4), AV.bool !Prod.fst n.2 == n_2.2.1] [AV.sl x.1.length 1 (natG .i64 x.1), AV.bool x.2] ∧ Ten.dig x.1 ∧ x.1.length < 2147483648) fun n => .all (fun (r : List UInt8 × Int) => r = wr n.2 (Ten.val n.1)) fun n => .leaf (.ret [.str n.1, .int .i64 n.2] []))) (by kernel_rfl) ?_
  simp only [Tree.holds, zd]
  refine ⟨(s, t), ⟨by simp, hs, ht⟩, ⟨_, rfl⟩, ?_⟩
  rintro _ rfl
  simp only
  refine ⟨fun he => ?_, fun he => ?_⟩
  · have he : zl s t ≠ 0 := by
      intro h; simp [h] at he
    have e : mulI s t = ([], zl s t) := if_neg he
    rw [e] at hq
    exact RetR.scal hq rfl (by simp [resV])
  have he : zl s t = 0 := by
    refine Decidable.byContradiction fun h => ?_
    simp [h] at he
  obtain ⟨h1, h2⟩ := zf.1 he
  have e : mulI s t = wr (negI s != negI t) (numI s * numI t) := if_pos he
  rw [e] at hq
  refine ⟨s, ⟨by simp, hs⟩, ⟨_, rfl⟩, ?_⟩
  rintro _ rfl
  refine ⟨t, ⟨by simp, ht⟩, ⟨_, rfl⟩, ?_⟩
  rintro _ rfl
  obtain ⟨a1, a2, a3, a4⟩ := j2 h1
  obtain ⟨b1, b2, b3, b4⟩ := j2 h2
  have a5 := zal h1
  have b5 := zal h2
  rw [a1, b1]
  have ea : (parse s).1 = negI s := rfl
  have eb : (parse t).1 = negI t := rfl
  simp only [ea, eb]
  rw [← a4, ← b4] at hq
  generalize dg (parse s).2 = x at *
  generalize dg (parse t).2 = y at *
  refine ⟨(x, y), ⟨eqL2 x y, a2, b2, a5, b5, by show x.length < _; omega, by show y.length < _; omega⟩, YI a2 b2, ?_⟩
  rintro z ⟨g1, g2, g3⟩
  simp only at g1 g3
  refine ⟨(z, negI s != negI t), ⟨eqLb z _, g2, by show z.length < _; omega⟩, ⟨_, rfl⟩, ?_⟩
  rintro _ rfl
  rw [← g3] at hq
  exact RetR.scal hq rfl (by simp [resV])
theorem UP : zc Tryz.prog 89 Vn := by
  refine ze (fn := Tryz.f89) (c := Tryz.f89.body.getD .skip) rfl rfl rfl fun p hp O w0 Q hq => ?_
  obtain ⟨s, t⟩ := p
  obtain ⟨hs, ht⟩ := hp
  replace hq := hq _ rfl
  simp only at hs ht hq
  refine zb.run hmix QH [] 400 (T := .ex (fun (x : List UInt8 × List UInt8) => eqL [AV.str s, AV.str t] [AV.str x.1, AV.str x.2] ∧ x.1.length < 1099511627776 ∧ x.2.length < 1099511627776) fun n => .all (fun (r : Int) => r = zl n.1 n.2) fun n => .ite (!decide (n = 0)) (.leaf (.ret [.int .i64 0, .int .i64 n] [])) (.ex (fun (x : List UInt8) => eqL [AV.str s] [AV.str x] ∧ x.length < 1099511627776) fun n => .all (fun (r : List Nat × Bool × Bool) => r = digR n) fun n => .ex (fun (x : List UInt8) => eqL [AV.str t] [AV.str x] ∧ x.length < 1099511627776) fun n_1 => .all (fun (r : List Nat × Bool × Bool) => r = digR n_1) fun n_2 => .ite (bif n.2.1 then n_2.2.1 else false) (.ex (fun (x : List Nat × List Nat) => eqL [AV.sl n_2.1.length 1 (natG .i64 n_2.1), AV.sl n.1.length 1 (natG .i64 n.1)] [AV.sl x.1.length 1 (natG .i64 x.1), AV.sl x.2.length 1 (natG .i64 x.2)] ∧ Ten.dig x.1 ∧ Ten.dig x.2 ∧ x.1.length < 4611686018427387904 ∧ x.2.length < 4611686018427387904) fun n => .all (fun (r : Int) => r = cmpN (Ten.val n.1) (Ten.val n.2)) fun n => .leaf (.ret [.int .i64 n, .int .i64 0] [])) (.ite (n.2.1) (.leaf (.ret [.int .i64 (-1 : Int), .int .i64 0] [])) (.ite (n_2.2.1) (.leaf (.ret [.int .i64 1, .int .i64 0] [])) (.ex (fun (x : List Nat × List Nat) => eqL [AV.sl n.1.length 1 (natG .i64 n.1), AV.sl n_2.1.length 1 (natG .i64 n_2.1)] [AV.sl x.1.length 1 (natG .i64 x.1), AV.sl x.2.length 1 (natG .i64 x.2)] ∧ Ten.dig x.1 ∧ Ten.dig x.2 ∧ x.1.length < 4611686018427387904 ∧ x.2.length < 4611686018427387904) fun n => .all (fun (r : Int) => r = cmpN (Ten.val n.1) (Ten.val n.2)) fun n => .leaf (.ret [.int .i64 n, .int .i64 0] [])))))) (by kernel_rfl) ?_
  simp only [Tree.holds, zd]
  refine ⟨(s, t), ⟨by simp, hs, ht⟩, ⟨_, rfl⟩, ?_⟩
  rintro _ rfl
  simp only
  refine ⟨fun he => ?_, fun he => ?_⟩
  · have he : zl s t ≠ 0 := by
      intro h; simp [h] at he
    have e : wP s t = (0, zl s t) := if_neg he
    rw [e] at hq
    exact RetR.scal hq rfl (by simp [resV])
  have he : zl s t = 0 := by
    refine Decidable.byContradiction fun h => ?_
    simp [h] at he
  obtain ⟨h1, h2⟩ := zf.1 he
  have e : wP s t = (cmpZ (negI s) (numI s) (negI t) (numI t), 0) := if_pos he
  rw [e] at hq
  refine ⟨s, ⟨by simp, hs⟩, ⟨_, rfl⟩, ?_⟩
  rintro _ rfl
  refine ⟨t, ⟨by simp, ht⟩, ⟨_, rfl⟩, ?_⟩
  rintro _ rfl
  obtain ⟨a1, a2, a3, a4⟩ := j2 h1
  obtain ⟨b1, b2, b3, b4⟩ := j2 h2
  rw [a1, b1]
  have ea : (parse s).1 = negI s := rfl
  have eb : (parse t).1 = negI t := rfl
  simp only [ea, eb]
  rw [← a4, ← b4] at hq
  generalize dg (parse s).2 = x at *
  generalize dg (parse t).2 = y at *
  have hb : ∀ (b : Bool) (u v : List Nat), Ten.dig u → Ten.dig v → u.length ≤ 1000 → v.length ≤ 1000 → cmpN (Ten.val u) (Ten.val v) = cmpZ (negI s) (Ten.val x) (negI t) (Ten.val y) →
      ∃ n : List Nat × List Nat, (eqL [AV.sl u.length 1 (natG .i64 u), AV.sl v.length 1 (natG .i64 v)] [AV.sl n.1.length 1 (natG .i64 n.1), AV.sl n.2.length 1 (natG .i64 n.2)] ∧ Ten.dig n.1 ∧ Ten.dig n.2 ∧ n.1.length < 4611686018427387904 ∧ n.2.length < 4611686018427387904) ∧
        (∃ r, r = cmpN (Ten.val n.1) (Ten.val n.2)) ∧ ∀ r, r = cmpN (Ten.val n.1) (Ten.val n.2) → RetR Vn 0 Q [.int .i64 r, .int .i64 0] [] := by
    intro b u v hu hv lu lv hc
    refine ⟨(u, v), ⟨⟨⟨rfl, rfl, za _ _ _⟩, ⟨rfl, rfl, za _ _ _⟩, trivial⟩, hu, hv, by show u.length < _; omega, by show v.length < _; omega⟩, ⟨_, rfl⟩, ?_⟩
    rintro _ rfl
    rw [← hc] at hq
    exact RetR.scal hq rfl (by simp [resV])
  refine ⟨fun h => hb true y x b2 a2 b3 a3 ?_, fun h => ⟨fun g => ?_, fun g => ⟨fun f => ?_, fun f => hb true x y a2 b2 a3 b3 ?_⟩⟩⟩
  · cases hm : negI s <;> cases hn : negI t <;> rw [hm, hn] at h <;> first | (cases h; done) | rfl
  · have e : cmpZ (negI s) (Ten.val x) (negI t) (Ten.val y) = -1 := by
      rw [g] at h ⊢
      have h : negI t = false := h
      rw [h]; rfl
    rw [e] at hq
    exact RetR.scal hq rfl (by simp [resV])
  · have e : cmpZ (negI s) (Ten.val x) (negI t) (Ten.val y) = 1 := by rw [g, f]; rfl
    rw [e] at hq
    exact RetR.scal hq rfl (by simp [resV])
  · rw [g, f]; rfl
theorem zek : zc Tryz.prog 136 rdmC := by
  refine ze (fn := Tryz.f136) (c := Tryz.f136.body.getD .skip) rfl rfl rfl fun p hp O w0 Q hq => ?_
  obtain ⟨s, t⟩ := p
  obtain ⟨hs, ht⟩ := hp
  replace hq := hq _ rfl
  simp only at hs ht hq
  refine zb.run hmix QH [] 400 (T := .ex (fun (x : List UInt8 × List UInt8) => eqL [AV.str s, AV.str t] [AV.str x.1, AV.str x.2] ∧ x.1.length < 1099511627776 ∧ x.2.length < 1099511627776) fun n => .all (fun (r : Int) => r = zl n.1 n.2) fun n => .ite (!decide (n = 0)) (.leaf (.ret [.str (Array.toList #[]), .str (Array.toList #[]), .int .i64 n] [])) (.ex (fun (x : List UInt8) => eqL [AV.str s] [AV.str x] ∧ x.length < 1099511627776) fun n => .all (fun (r : List Nat × Bool × Bool) => r = digR n) fun n => .ex (fun (x : List UInt8) => eqL [AV.str t] [AV.str x] ∧ x.length < 1099511627776) fun n_1 => .all (fun (r : List Nat × Bool × Bool) => r = digR n_1) fun n_2 => .ex (fun (x : List Nat) => eqL [AV.sl n_2.1.length 1 (natG .i64 n_2.1)] [AV.sl x.length 1 (natG .i64 x)] ∧ Ten.dig x ∧ x.length < 4611686018427387904) fun n_3 => .all (fun (r : Bool) => r = decide (Ten.val n_3 = 0)) fun n_4 => .ite n_4 (.leaf (.ret [.str (Array.toList #[]), .str (Array.toList #[]), .int .i64 16] [])) (.ex (fun (x : List Nat × List Nat) => eqL [AV.sl n.1.length 1 (natG .i64 n.1), AV.sl n_2.1.length 1 (natG .i64 n_2.1)] [AV.sl x.1.length 1 (natG .i64 x.1), AV.sl x.2.length 1 (natG .i64 x.2)] ∧ Ten.dig x.1 ∧ Ten.dig x.2 ∧ x.1.length < 274877906944 ∧ x.2.length < 274877906944 ∧ 0 < Ten.val x.2) fun n_5 => .all (fun (r : List Nat × List Nat) => r.1.length = n_5.1.length ∧ Ten.dig r.1 ∧ Ten.val r.1 = Ten.val n_5.1 / Ten.val n_5.2 ∧ r.2.length ≤ n_5.1.length ∧ Ten.dig r.2 ∧ Ten.val r.2 = Ten.val n_5.1 % Ten.val n_5.2) fun n_6 => .ex (fun (x : List Nat) => n.2.1 = true → eqL [AV.sl n_6.2.length 1 (natG .i64 n_6.2)] [AV.sl x.length 1 (natG .i64 x)] ∧ Ten.dig x ∧ x.length < 4611686018427387904) fun n_7 => .all (fun (x : Bool) => n.2.1 = true → x = decide (Ten.val n_7 = 0)) fun n_8 => .ite (bif n.2.1 then !n_8 else false) (.ex (fun (x : List Nat × List Nat) => eqL [AV.sl n_6.1.length 1 (natG .i64 n_6.1), AV.sl 1 1 (zj (zk 1 [AV.int .i64 1]) 0)] [AV.sl x.1.length 1 (natG .i64 x.1), AV.sl x.2.length 1 (natG .i64 x.2)] ∧ Ten.dig x.1 ∧ Ten.dig x.2 ∧ x.1.length < 1073741824 ∧ x.2.length < 1073741824) fun n_9 => .all (Ki n_9) fun n_10 => .ex (fun (x : List Nat × List Nat) => eqL [AV.sl n_2.1.length 1 (natG .i64 n_2.1), AV.sl n_6.2.length 1 (natG .i64 n_6.2)] [AV.sl x.1.length 1 (natG .i64 x.1), AV.sl x.2.length 1 (natG .i64 x.2)] ∧ Ten.dig x.1 ∧ Ten.dig x.2 ∧ x.1.length < 1099511627776 ∧ Ten.val x.2 ≤ Ten.val x.1) fun n_11 => .all (fun (r : List Nat) => r.length = n_11.1.length ∧ Ten.dig r ∧ Ten.val r + Ten.val n_11.2 = Ten.val n_11.1) fun n_12 => .ex (fun (x : List Nat × Bool) => eqL [AV.sl n_10.length 1 (natG .i64 n_10), AV.bool !Prod.fst n.2 == n_2.2.1] [AV.sl x.1.length 1 (natG .i64 x.1), AV.bool x.2] ∧ Ten.dig x.1 ∧ x.1.length < 1099511627776) fun n => .all (fun (r : List UInt8) => r = q5 n.2 (Ten.val n.1)) fun n => .ex (fun (x : List Nat × Bool) => eqL [AV.sl n_12.length 1 (natG .i64 n_12), AV.bool false] [AV.sl x.1.length 1 (natG .i64 x.1), AV.bool x.2] ∧ Ten.dig x.1 ∧ x.1.length < 1099511627776) fun n_13 => .all (fun (r : List UInt8) => r = q5 n_13.2 (Ten.val n_13.1)) fun n_14 => .leaf (.ret [.str n, .str n_14, .int .i64 0] [.arr 1 1 (zk 1 [.int .i64 1])])) (.ex (fun (x : List Nat × Bool) => eqL [AV.sl n_6.1.length 1 (natG .i64 n_6.1), AV.bool !Prod.fst n.2 == n_2.2.1] [AV.sl x.1.length 1 (natG .i64 x.1), AV.bool x.2] ∧ Ten.dig x.1 ∧ x.1.length < 1099511627776) fun n => .all (fun (r : List UInt8) => r = q5 n.2 (Ten.val n.1)) fun n => .ex (fun (x : List Nat × Bool) => eqL [AV.sl n_6.2.length 1 (natG .i64 n_6.2), AV.bool false] [AV.sl x.1.length 1 (natG .i64 x.1), AV.bool x.2] ∧ Ten.dig x.1 ∧ x.1.length < 1099511627776) fun n_9 => .all (fun (r : List UInt8) => r = q5 n_9.2 (Ten.val n_9.1)) fun n_10 => .leaf (.ret [.str n, .str n_10, .int .i64 0] []))))) (by kernel_rfl) ?_
  simp only [Tree.holds, zd]
  refine ⟨(s, t), ⟨by simp, hs, ht⟩, ⟨_, rfl⟩, ?_⟩
  rintro _ rfl
  simp only
  refine ⟨fun he => ?_, fun he => ?_⟩
  · have he : zl s t ≠ 0 := by
      intro h; simp [h] at he
    have e : dmI s t = ([], [], zl s t) := if_pos he
    rw [e] at hq
    exact RetR.scal hq rfl (by simp [resV])
  have he : zl s t = 0 := by
    refine Decidable.byContradiction fun h => ?_
    simp [h] at he
  obtain ⟨h1, h2⟩ := zf.1 he
  refine ⟨s, ⟨by simp, hs⟩, ⟨_, rfl⟩, ?_⟩
  rintro _ rfl
  refine ⟨t, ⟨by simp, ht⟩, ⟨_, rfl⟩, ?_⟩
  rintro _ rfl
  obtain ⟨a1, a2, a3, a4⟩ := j2 h1
  obtain ⟨b1, b2, b3, b4⟩ := j2 h2
  rw [a1, b1]
  have ea : (parse s).1 = negI s := rfl
  have eb : (parse t).1 = negI t := rfl
  simp only [ea, eb]
  generalize dg (parse s).2 = x at *
  generalize dg (parse t).2 = y at *
  refine ⟨y, ⟨⟨⟨rfl, rfl, za _ _ _⟩, trivial⟩, b2, by omega⟩, ⟨_, rfl⟩, ?_⟩
  rintro _ rfl
  refine ⟨fun h0 => ?_, fun h0 => ?_⟩
  · have h0 : Ten.val y = 0 := of_decide_eq_true h0
    have e : dmI s t = ([], [], 16) := by rw [dmI, if_neg (by rw [he]; decide), if_pos (by rw [← b4]; exact h0)]
    rw [e] at hq
    exact RetR.scal hq rfl (by simp [resV])
  have h0 : Ten.val y ≠ 0 := of_decide_eq_false h0
  have h0' : numI t ≠ 0 := by rw [← b4]; exact h0
  have e : dmI s t = ((wr (negI s != negI t) (dmQ s t)).1, (wr false (dmM s t)).1, 0) := by rw [dmI, if_neg (by rw [he]; decide), if_neg h0']
  rw [e] at hq
  have rq := Wx h1 h0'
  have rm := WD (s := s) h2 h0'
  have hlt := Nat.mod_lt (Ten.val x) (Nat.pos_of_ne_zero h0)
  have hex : ∃ r, Kx (x, y) r := by
    obtain ⟨g1, g2, g3⟩ := uq a2 (Nat.div_le_self (Ten.val x) (Ten.val y))
    obtain ⟨g4, g5, g6⟩ := uq a2 (Nat.mod_le (Ten.val x) (Ten.val y))
    exact ⟨(_, _), g1, g2, g3, Nat.le_of_eq g4, g5, g6⟩
  refine ⟨(x, y), ⟨eqL2 x y, a2, b2, by show x.length < _; omega, by show y.length < _; omega, Nat.pos_of_ne_zero h0⟩, hex, ?_⟩
  rintro ⟨q, r⟩ ⟨g1, g2, g3, g4, g5, g6⟩
  simp only at g1 g2 g3 g4 g5 g6
  have fin : ∀ u v : List Nat, Ten.val u = dmQ s t → Ten.val v = dmM s t → ∀ U V : List UInt8, U = q5 (negI s != negI t) (Ten.val u) → V = q5 false (Ten.val v) → ∀ h : Heap, RetR rdmC 0 Q [.str U, .str V, .int .i64 0] h := by
    rintro u v hu hv _ _ rfl rfl h
    rw [← hu] at hq rq
    rw [← hv] at hq rm
    rw [← yF rq, ← yF rm] at hq
    exact RetR.scal hq rfl (by simp [resV])
  have hq1 : Ten.val q = numI s / numI t := by rw [g3, a4, b4]
  have hr1 : Ten.val r = numI s % numI t := by rw [g6, a4, b4]
  refine ⟨r, fun _ => ⟨⟨⟨rfl, rfl, za _ _ _⟩, trivial⟩, g5, by omega⟩, ⟨_, fun _ => rfl⟩, ?_⟩
  intro z hz
  refine ⟨fun hc => ?_, fun hc => ?_⟩
  · have hm : negI s = true := by
      cases hn : negI s with
      | true => rfl
      | false => rw [hn] at hc; cases hc
    have hz := hz hm
    rw [hm] at hc
    have hc : z = false := by simpa using hc
    rw [hc] at hz
    have hr0 : Ten.val r ≠ 0 := of_decide_eq_false hz.symm
    have hcond : negI s = true ∧ 0 < numI s % numI t := ⟨hm, by omega⟩
    have eQ : dmQ s t = numI s / numI t + 1 := if_pos hcond
    have eM : dmM s t = numI t - numI s % numI t := if_pos hcond
    have h1d : Ten.dig [1] := by intro d hd; have : d = 1 := by simpa using hd
                                 rw [this]; decide
    refine ⟨(q, [1]), ⟨⟨⟨rfl, rfl, za _ _ _⟩, ⟨rfl, rfl, ?_⟩, trivial⟩, g2, h1d, by show q.length < _; omega, by show 1 < 1073741824; decide⟩, KG g2 h1d, ?_⟩
    · intro j o hj ho
      have : j = 0 := by omega
      subst this
      have : o = 0 := by omega
      subst this
      rfl
    rintro u ⟨u1, u2, u3⟩
    simp only at u1 u3
    have hle : Ten.val r ≤ Ten.val y := by omega
    refine ⟨(y, r), ⟨eqL2 y r, b2, g5, by show y.length < _; omega, hle⟩, xA b2 hle, ?_⟩
    rintro v ⟨v1, v2, v3⟩
    simp only at v1 v3
    have hone : Ten.val [1] = 1 := rfl
    refine ⟨(u, negI s != negI t), ⟨eqLb u _, u2, by simp only [u1]; show max q.length 1 + 1 < _; omega⟩, ⟨_, rfl⟩, ?_⟩
    intro U hU
    refine ⟨(v, false), ⟨eqLb v _, v2, by simp only; omega⟩, ⟨_, rfl⟩, ?_⟩
    intro V hV
    exact fin u v (by rw [u3, hone, hq1, eQ]) (by rw [eM]; omega) U V hU hV _
  · have hcond : ¬ (negI s = true ∧ 0 < numI s % numI t) := by
      rintro ⟨hm, h5⟩
      have hz := hz hm
      rw [hm] at hc
      have hc : z = true := by simpa using hc
      rw [hc] at hz
      have : Ten.val r = 0 := of_decide_eq_true hz.symm
      omega
    have eQ : dmQ s t = numI s / numI t := if_neg hcond
    have eM : dmM s t = numI s % numI t := if_neg hcond
    refine ⟨(q, negI s != negI t), ⟨eqLb q _, g2, by simp only; omega⟩, ⟨_, rfl⟩, ?_⟩
    intro U hU
    refine ⟨(r, false), ⟨eqLb r _, g5, by simp only; omega⟩, ⟨_, rfl⟩, ?_⟩
    intro V hV
    exact fin q r (by rw [hq1, eQ]) (by rw [hr1, eM]) U V hU hV _
end Go.Proofs.Tryz
end

/- Rationals as the reference computes them. -/
section
namespace Go.Nov
theorem Jk {b c : Bool} {x : Nat} (h : x ≠ 0 → b = c) : wr b x = wr c x := by
 by_cases h0 : x = 0
 ·subst h0; rfl
 ·rw [h h0]
def negS (a : List UInt8) : List UInt8 := if a = [48] then a else if a.getD 0 0 = 45 then a.drop 1 else [45] ++ a
theorem Wf (z : Int) : z = 0 ∧ (wz z).1 = [48] ∨ z ≠ 0 ∧ room z.natAbs ∧ (wz z).1 = sgn (decide (z < 0)) (txt z.natAbs) ∨ ¬ room z.natAbs := by
 by_cases h0 : z = 0
 ·left; subst h0; exact ⟨rfl, rfl⟩
 ·right
  by_cases hr : room z.natAbs
  ·left
   refine ⟨h0, hr, ?_⟩
   unfold wz wr
   have hr' : (dec z.natAbs).length ≤ 1000 := hr
   rw [if_neg (by omega), if_neg (by omega)]
  ·exact .inr hr
theorem JO (b : List UInt8) : sgn true b = 45 :: b := rfl
theorem Q1 (b : List UInt8) : sgn false b = b := rfl
theorem UI {r : Rat} (h : wT r) : negS (qstr r) = qstr (-r) := by
 have hn : (-r).num = -r.num := rfl
 have hd : (-r).den = r.den := rfl
 have tail : ∀ t : List UInt8, (r.den = 1 → t = []) → (r.den ≠ 1 → t = [47] ++ (wz (r.den : Int)).1) → qstr r = (wz r.num).1 ++ t ∧ qstr (-r) = (wz (-r.num)).1 ++ t := by
  intro t h1 h2
  unfold qstr
  rw [hn, hd]
  by_cases hd1 : r.den = 1
  ·rw [if_pos hd1, if_pos hd1, h1 hd1]; simp
  ·rw [if_neg hd1, if_neg hd1, h2 hd1]; simp
 obtain ⟨t, ht1, ht2⟩ : ∃ t : List UInt8, (r.den = 1 → t = []) ∧ (r.den ≠ 1 → t = [47] ++ (wz (r.den : Int)).1) := by
  by_cases hd1 : r.den = 1
  ·exact ⟨[], fun _ => rfl, fun h => absurd hd1 h⟩
  ·exact ⟨_, fun h => absurd h hd1, fun _ => rfl⟩
 obtain ⟨e1, e2⟩ := tail t ht1 ht2
 rw [e1, e2]
 rcases Wf r.num with ⟨z0, zs⟩ | ⟨z0, zr, zs⟩ | zr
 ·have hr0 : r = 0 := Rat.num_eq_zero.1 z0
  have ht : t = [] := ht1 (by rw [hr0]; rfl)
  rw [z0, ht]
  rfl
 ·rcases Wf (-r.num) with ⟨z0', _⟩ | ⟨_, _, zs'⟩ | zr'
  ·omega
  ·rw [zs, zs', Int.natAbs_neg]
   have hx : r.num.natAbs ≠ 0 := by omega
   obtain ⟨f1, f2⟩ := y7 hx
   have fne := Vs hx
   by_cases hlt : r.num < 0
   ·rw [decide_eq_true hlt, decide_eq_false (by omega), JO, Q1]
    unfold negS
    rw [if_neg (by simp), if_pos (by simp)]
    rfl
   ·rw [decide_eq_false hlt, decide_eq_true (by omega), JO, Q1]
    generalize txt r.num.natAbs = b at *
    cases b with
    | nil => exact absurd rfl fne
    | cons c b =>
     simp only [List.getD_cons_zero] at f1 f2
     unfold negS
     rw [if_neg (by simp [f1]), if_neg (by simpa using f2)]
     rfl
  ·rw [Int.natAbs_neg] at zr'; exact absurd zr zr'
 ·exact absurd h.1 zr
theorem YE {r : Rat} (h : wT r) : wT (-r) := by
 refine ⟨?_, h.2⟩
 show room (-r.num).natAbs
 rw [Int.natAbs_neg]; exact h.1
theorem zbv {a : List UInt8} (h : errR a = 0) : errR (negS a) = 0 ∧ qv (negS a) = -qv a ∧ numR (negS a) = (wz (-zI (numR a))).1 ∧ denR (negS a) = denR a := by
 obtain ⟨h1, h2, h3, h4⟩ := yh h
 have e : negS a = qstr (-qv a) := by rw [← UI h4, h3]
 have hr := YE h4
 obtain ⟨p1, p2, _⟩ := xi hr
 rw [e]
 refine ⟨kM hr, uz hr, ?_, ?_⟩
 ·rw [p1]
  show (wz (-(qv a).num)).1 = _
  rw [h1]
 ·rw [p2]
  show (wz ((qv a).den : Int)).1 = _
  rw [h2, kX (qp h).2.1]
theorem wA (z : Int) : (wz (-z)).2 = (wz z).2 := by
 unfold wz wr
 rw [Int.natAbs_neg]
 split
 ·rfl
 ·split <;> rfl
theorem sub_neg {a b : List UInt8} (ha : errR a = 0) (hb : errR b = 0) : addR a (negS b) = subR a b := by
 obtain ⟨n1, n2, n3, n4⟩ := zbv hb
 obtain ⟨a1, a2, b1, b2, a4, b4, h2⟩ := uA ha hb
 obtain ⟨_, _, b1', b2', _, b4', h2'⟩ := uA ha n1
 have hz : zI (numR (negS b)) = -zI (numR b) := by
  rw [n3]
  refine ji ?_
  rw [wA, kX b1]
 have m1 : mulI (numR a) (denR (negS b)) = mulI (numR a) (denR b) := by rw [n4]
 have m2 := ka (zf.2 ⟨b1', a2⟩)
 have m2' := ka (zf.2 ⟨b1, a2⟩)
 rw [hz, Int.neg_mul] at m2
 have hc : zq a (negS b) = zq a b := by
  unfold zq
  rw [h2, h2', m1, m2, m2', wA]
 unfold addR subR
 rw [hc]
 split
 ·rfl
 ·rename_i hne
  rw [Classical.not_not] at hne
  rcases kG ha hb with h | ⟨_, k1, k2, k3, k4⟩
  ·rw [h] at hne; cases hne
  ·rw [m1, n4]
   congr 1
   rw [m2, m2'] at *
   rw [k1] at k3 ⊢
   have e1 := j0 k3
   have e2 := j0 k4
   have k5 : (wz (-(zI (numR b) * zI (denR a)))).2 = 0 := by rw [wA]; exact k4
   have e3 := j0 k5
   rw [UK (zf.2 ⟨e1, e3⟩), UE (zf.2 ⟨e1, e2⟩), ji k3, ji k4, ji k5, Int.sub_eq_add_neg]
end Go.Nov
end

/- The reference's rationals. -/
section
set_option maxRecDepth 100000
open Go Go.Sx Go.Proofs Go.Nov
namespace Go.Proofs.Tryz
attribute [local simp] eqKV eqA eqA0 eqH eqB eqL eqL0
noncomputable def K121 : List Go.Sx.Item := [.code (Tryz.f121.body.getD .skip)]
noncomputable def K84 : List Go.Sx.Item := [.code (Tryz.f84.body.getD .skip)]
noncomputable def K83 : List Go.Sx.Item := [.code (Tryz.f83.body.getD .skip)]
noncomputable def K87 : List Go.Sx.Item := [.code (Tryz.f87.body.getD .skip)]
noncomputable def K88 : List Go.Sx.Item := [.code (Tryz.f88.body.getD .skip)]
noncomputable def K49 : List Go.Sx.Item := [.code (Tryz.f49.body.getD .skip)]
noncomputable def K51 : List Go.Sx.Item := [.code (Tryz.f51.body.getD .skip)]
noncomputable def K52 : List Go.Sx.Item := [.code (Tryz.f52.body.getD .skip)]
noncomputable def K50 : List Go.Sx.Item := [.code (Tryz.f50.body.getD .skip)]
def Ji : Ctr := ctrP true (fun p : List UInt8 × List UInt8 => [.str p.1, .str p.2]) (fun p => p.1.length < 2 ^ 40 ∧ p.2.length < 2 ^ 40) (fun p r => r = q9 p.1 p.2) (fun _ r => (.tup [.str r.1, .int .i64 r.2], []))
def GRm : Nat → Option Ctr := fun f => if f = 115 then some (KU) else if f = 135 then some (zei) else if f = 114 then some (zbg) else if f = 136 then some (rdmC) else none
theorem zf2 : ∀ g c, GRm g = some c → zc Tryz.prog g c := okIf Jo (okIf zdg (okIf KA (okIf zek (okNone))))
theorem Ub (z : Int) : (wz z).1.length ≤ 1001 := j9 _ _
theorem YD : zc Tryz.prog 121 Ji := by
 refine ze (fn := Tryz.f121) (c := Tryz.f121.body.getD .skip) rfl rfl rfl fun p hp O w0 Q hq => ?_
 obtain ⟨s, t⟩ := p
 obtain ⟨hs, ht⟩ := hp
 replace hq := hq _ rfl
 simp only at hs ht hq
 refine zb.run hmix zf2 [] 400 (T := .ex (fun (x : List UInt8 × List UInt8) => eqL [AV.str s, AV.str t] [AV.str x.1, AV.str x.2] ∧ x.1.length < 1099511627776 ∧ x.2.length < 1099511627776) fun n => .all (fun (r : Int) => r = zl n.1 n.2) fun n => .ite (!decide (n = 0)) (.leaf (.ret [.str (Array.toList #[]), .int .i64 n] [])) (.ite (decide (t = Array.toList #[(48 : UInt8)])) (.leaf (.ret [.str (Array.toList #[]), .int .i64 16] [])) (.side ((0 : Int) ≤ 0 ∧ (0 : Int) < t.length) (.ite (decide ((↑(UInt8.toNat (List.getD t 0 (0 : UInt8))) : Int) = 45)) (.ex (fun (x : List UInt8) => eqL [AV.str s] [AV.str x] ∧ errI x = 0 ∧ x.length < 1099511627776) fun n => .all (fun (r : List UInt8) => r = Prod.fst (wz (-zI n))) fun n => .ex (fun (x : List UInt8) => eqL [AV.str t] [AV.str x] ∧ errI x = 0 ∧ x.length < 1099511627776) fun n_1 => .all (fun (r : List UInt8) => r = Prod.fst (wz (-zI n_1))) fun n_2 => .ex (fun (x : List UInt8 × List UInt8) => eqL [AV.str n, AV.str n_2] [AV.str x.1, AV.str x.2] ∧ x.1.length < 1099511627776 ∧ x.2.length < 1099511627776) fun n_3 => .all (fun (r : List UInt8 × Int) => r = gcdR n_3.1 n_3.2) fun n_4 => .ex (fun (x : List UInt8 × List UInt8) => eqL [AV.str n, AV.str n_4.1] [AV.str x.1, AV.str x.2] ∧ x.1.length < 1099511627776 ∧ x.2.length < 1099511627776) fun n => .all (fun (r : List UInt8 × List UInt8 × Int) => r = dmI n.1 n.2) fun n => .ex (fun (x : List UInt8 × List UInt8) => eqL [AV.str n_2, AV.str n_4.1] [AV.str x.1, AV.str x.2] ∧ x.1.length < 1099511627776 ∧ x.2.length < 1099511627776) fun n_5 => .all (fun (r : List UInt8 × List UInt8 × Int) => r = dmI n_5.1 n_5.2) fun n_6 => .ite (decide (n_6.1 = Array.toList #[(49 : UInt8)])) (.leaf (.ret [.str n.1, .int .i64 0] [])) (.side (n.1.length + 1 ≤ 9223372036854775807) (.side (List.length (n.1 ++ Array.toList #[(47 : UInt8)]) + n_6.1.length ≤ 9223372036854775807) (.leaf (.ret [.str (n.1 ++ Array.toList #[(47 : UInt8)] ++ n_6.1), .int .i64 0] []))))) (.ex (fun (x : List UInt8 × List UInt8) => eqL [AV.str s, AV.str t] [AV.str x.1, AV.str x.2] ∧ x.1.length < 1099511627776 ∧ x.2.length < 1099511627776) fun n => .all (fun (r : List UInt8 × Int) => r = gcdR n.1 n.2) fun n => .ex (fun (x : List UInt8 × List UInt8) => eqL [AV.str s, AV.str n.1] [AV.str x.1, AV.str x.2] ∧ x.1.length < 1099511627776 ∧ x.2.length < 1099511627776) fun n_1 => .all (fun (r : List UInt8 × List UInt8 × Int) => r = dmI n_1.1 n_1.2) fun n_2 => .ex (fun (x : List UInt8 × List UInt8) => eqL [AV.str t, AV.str n.1] [AV.str x.1, AV.str x.2] ∧ x.1.length < 1099511627776 ∧ x.2.length < 1099511627776) fun n => .all (fun (r : List UInt8 × List UInt8 × Int) => r = dmI n.1 n.2) fun n => .ite (decide (n.1 = Array.toList #[(49 : UInt8)])) (.leaf (.ret [.str n_2.1, .int .i64 0] [])) (.side (n_2.1.length + 1 ≤ 9223372036854775807) (.side (List.length (n_2.1 ++ Array.toList #[(47 : UInt8)]) + n.1.length ≤ 9223372036854775807) (.leaf (.ret [.str (n_2.1 ++ Array.toList #[(47 : UInt8)] ++ n.1), .int .i64 0] []))))))))) (by kernel_rfl) ?_
 simp only [Tree.holds, zd, inR, lo, hi, Int.toNat_natCast]
 refine ⟨(s, t), ⟨by simp, hs, ht⟩, ⟨_, rfl⟩, ?_⟩
 rintro _ rfl
 simp only
 refine ⟨fun he => ?_, fun he => ?_⟩
 ·have he : zl s t ≠ 0 := by
   intro h; simp [h] at he
  have e : q9 s t = ([], zl s t) := if_pos he
  rw [e] at hq
  exact RetR.scal hq rfl (by simp [resV])
 have he : zl s t = 0 := by
  refine Decidable.byContradiction fun h => ?_
  simp [h] at he
 obtain ⟨h1, h2⟩ := zf.1 he
 refine ⟨fun h0 => ?_, fun h0 => ?_⟩
 ·have h0 : t = [48] := by simpa using h0
  have e : q9 s t = ([], 16) := by rw [q9, if_neg (by rw [he]; decide), if_pos ((wy h2).1 h0)]
  rw [e] at hq
  exact RetR.scal hq rfl (by simp [resV])
 have ht0 : t ≠ [48] := fun h => of_decide_eq_false h0 h
 have hn0 : numI t ≠ 0 := fun h => ht0 ((wy h2).2 h)
 have htn : t ≠ [] := by rintro rfl; simp [Zx] at h2
 have hneg := y5 htn
 have e : q9 s t = (Qx (negI s != negI t) (numI s) (numI t), 0) := by rw [q9, if_neg (by rw [he]; decide), if_neg hn0]
 rw [e, Qx] at hq
 obtain ⟨g0, gr⟩ := uS (s := s) h2 hn0
 have ds : Nat.gcd (numI s) (numI t) ∣ numI s := Nat.gcd_dvd_left _ _
 have dt : Nat.gcd (numI s) (numI t) ∣ numI t := Nat.gcd_dvd_right _ _
 have fin : ∀ u v : List UInt8, errI u = 0 → errI v = 0 → numI u = numI s → numI v = numI t → negI v = false → (numI s ≠ 0 → negI u = (negI s != negI t)) → u.length < 2 ^ 40 → v.length < 2 ^ 40 →
   ∃ n : List UInt8 × List UInt8, (eqL [AV.str u, AV.str v] [AV.str n.1, AV.str n.2] ∧ n.1.length < 1099511627776 ∧ n.2.length < 1099511627776) ∧ (∃ r, r = gcdR n.1 n.2) ∧ ∀ r : List UInt8 × Int, r = gcdR n.1 n.2 →
    ∃ n : List UInt8 × List UInt8, (eqL [AV.str u, AV.str r.1] [AV.str n.1, AV.str n.2] ∧ n.1.length < 1099511627776 ∧ n.2.length < 1099511627776) ∧ (∃ r, r = dmI n.1 n.2) ∧ ∀ z : List UInt8 × List UInt8 × Int, z = dmI n.1 n.2 →
     ∃ n : List UInt8 × List UInt8, (eqL [AV.str v, AV.str r.1] [AV.str n.1, AV.str n.2] ∧ n.1.length < 1099511627776 ∧ n.2.length < 1099511627776) ∧ (∃ r, r = dmI n.1 n.2) ∧ ∀ w : List UInt8 × List UInt8 × Int, w = dmI n.1 n.2 →
      (decide (w.1 = [49]) = true → RetR Ji 0 Q [.str z.1, .int .i64 0] []) ∧ (decide (w.1 = [49]) = false → z.1.length + 1 ≤ 9223372036854775807 ∧ (z.1.length + 1 ≤ 9223372036854775807 → (z.1 ++ [47]).length + w.1.length ≤ 9223372036854775807 ∧ ((z.1 ++ [47]).length + w.1.length ≤ 9223372036854775807 → RetR Ji 0 Q [.str (z.1 ++ [47] ++ w.1), .int .i64 0] []))) := by
  intro u v eu ev nu nv sv su lu lv
  refine ⟨(u, v), ⟨⟨rfl, rfl, trivial⟩, by simpa using lu, by simpa using lv⟩, ⟨_, rfl⟩, ?_⟩
  rintro _ rfl
  have eg : gcdR u v = wr false (Nat.gcd (numI s) (numI t)) := by rw [gcdR, if_pos (zf.2 ⟨eu, ev⟩), nu, nv]
  rw [eg]
  generalize Nat.gcd (numI s) (numI t) = g at *
  have l1 := j9 false g
  refine ⟨(u, (wr false g).1), ⟨⟨rfl, rfl, trivial⟩, by simpa using lu, by simp only; omega⟩, ⟨_, rfl⟩, ?_⟩
  rintro _ rfl
  refine ⟨(v, (wr false g).1), ⟨⟨rfl, rfl, trivial⟩, by simpa using lv, by simp only; omega⟩, ⟨_, rfl⟩, ?_⟩
  rintro _ rfl
  rw [yd eu g0 gr (by rw [nu]; exact ds), yd ev g0 gr (by rw [nv]; exact dt), nu, nv, sv]
  simp only
  have hb : (negI u != false) = negI u := by cases negI u <;> rfl
  have hb2 : (false != false) = false := rfl
  rw [hb, hb2]
  have hw : wr (negI u) (numI s / g) = wr (negI s != negI t) (numI s / g) := Jk fun h => su fun h5 => h (by rw [h5, Nat.zero_div])
  rw [hw]
  have rt := room_le (Nat.div_le_self (numI t) g) (qD h2)
  have k1 := j9 (negI s != negI t) (numI s / g)
  have k2 := j9 false (numI t / g)
  refine ⟨fun h => ?_, fun h => ⟨by omega, fun _ => ⟨by simp <;> omega, fun _ => ?_⟩⟩⟩
  ·have h1 := (uN rt).1 (of_decide_eq_true h)
   rw [if_pos h1] at hq
   exact RetR.scal hq rfl (by simp [resV])
  ·have h1 : ¬ numI t / g = 1 := fun h1 => of_decide_eq_false h ((uN rt).2 h1)
   rw [if_neg h1] at hq
   exact RetR.scal hq rfl (by simp [resV])
 have lt0 := List.length_pos_iff.2 htn
 refine ⟨⟨by omega, by omega⟩, fun _ => ⟨fun hb => ?_, fun hb => ?_⟩⟩
 ·have hn : negI t = true := by
   rw [hneg, decide_eq_true_eq]
   exact xc (of_decide_eq_true hb)
  refine ⟨s, ⟨by simp, h1, hs⟩, ⟨_, rfl⟩, ?_⟩
  rintro _ rfl
  refine ⟨t, ⟨by simp, h2, ht⟩, ⟨_, rfl⟩, ?_⟩
  rintro _ rfl
  have zs : (wz (-zI s)).2 = 0 := by rw [wA, kX h1]
  have zt : (wz (-zI t)).2 = 0 := by rw [wA, kX h2]
  have ws := Ub (-zI s)
  have wt := Ub (-zI t)
  have es := j0 zs
  have et := j0 zt
  refine fin _ _ es et (by rw [← qI, ji zs, Int.natAbs_neg, qI]) (by rw [← qI, ji zt, Int.natAbs_neg, qI]) ?_ (fun h => ?_) (by omega) (by omega)
  ·rw [kx et, ji zt]
   have : zI t < 0 := by have := kx h2; rw [hn] at this; exact of_decide_eq_true this.symm
   exact decide_eq_false (by omega)
  ·rw [kx es, ji zs, hn]
   have ha := qI s
   have hs2 := kx h1
   cases hm : negI s with
   | true => rw [hm] at hs2; have := of_decide_eq_true hs2.symm; exact decide_eq_false (by omega)
   | false => rw [hm] at hs2; have := of_decide_eq_false hs2.symm; exact decide_eq_true (by omega)
 ·have hn : negI t = false := by
   rw [hneg, decide_eq_false_iff_not]
   intro h
   apply of_decide_eq_false hb
   rw [h]; rfl
  exact fin s t h1 h2 rfl rfl hn (fun _ => by rw [hn]; cases negI s <;> rfl) hs ht
structure Q4 where
 n : List UInt8
 d : List UInt8
 m : List UInt8
 c : List UInt8
 e : Int
def xh (a b : List UInt8) : Q4 := if zL a b ≠ 0 then ⟨[], [], [], [], zL a b⟩ else ⟨numR a, denR a, numR b, denR b, 0⟩
def Jt : Ctr := ctrP true (fun p : List UInt8 × List UInt8 => [.str p.1, .str p.2]) (fun p => p.1.length < 2 ^ 40 ∧ p.2.length < 2 ^ 40) (fun p r => r = xh p.1 p.2) (fun _ (r : Q4) => (.tup [.str r.n, .str r.d, .str r.m, .str r.c, .int .i64 r.e], []))
def GRf : Nat → Option Ctr := fun f => if f = 78 then some (xE) else if f = 111 then some (uJ) else none
theorem zfr : ∀ g c, GRf g = some c → zc Tryz.prog g c := okIf x3 (okIf uT (okNone))
theorem ZD : zc Tryz.prog 84 Jt := by
 refine ze (fn := Tryz.f84) (c := Tryz.f84.body.getD .skip) rfl rfl rfl fun p hp O w0 Q hq => ?_
 obtain ⟨a, b⟩ := p
 obtain ⟨ha, hb⟩ := hp
 replace hq := hq _ rfl
 simp only at ha hb hq
 unfold xh zL at hq
 refine zb.run hmix zfr [] 400 (T := .ex (fun (x : List UInt8) => eqL [AV.str a] [AV.str x] ∧ x.length < 1099511627776) fun n => .all (fun (r : Int) => r = errR n) fun n => .ite (!decide (n = 0)) (.ex (fun (x : List UInt8) => eqL [AV.str a] [AV.str x] ∧ x.length < 1099511627776) fun n => .all (fun (r : Int) => r = errR n) fun n => .leaf (.ret [.str (Array.toList #[]), .str (Array.toList #[]), .str (Array.toList #[]), .str (Array.toList #[]), .int .i64 n] [])) (.ex (fun (x : List UInt8) => eqL [AV.str b] [AV.str x] ∧ x.length < 1099511627776) fun n => .all (fun (r : Int) => r = errR n) fun n => .ite (!decide (n = 0)) (.ex (fun (x : List UInt8) => eqL [AV.str b] [AV.str x] ∧ x.length < 1099511627776) fun n => .all (fun (r : Int) => r = errR n) fun n => .leaf (.ret [.str (Array.toList #[]), .str (Array.toList #[]), .str (Array.toList #[]), .str (Array.toList #[]), .int .i64 n] [])) (.ex (fun (x : List UInt8) => eqL [AV.str a] [AV.str x] ∧ x.length < 4611686018427387904) fun n => .all (fun (r : List UInt8 × List UInt8) => r = (Prod.fst (cutR n), if Prod.snd (Prod.snd (cutR n)) = true then Prod.fst (Prod.snd (cutR n)) else [(49 : UInt8)])) fun n => .ex (fun (x : List UInt8) => eqL [AV.str b] [AV.str x] ∧ x.length < 4611686018427387904) fun n_1 => .all (fun (r : List UInt8 × List UInt8) => r = (Prod.fst (cutR n_1), if Prod.snd (Prod.snd (cutR n_1)) = true then Prod.fst (Prod.snd (cutR n_1)) else [(49 : UInt8)])) fun n_2 => .leaf (.ret [.str n.1, .str n.2, .str n_2.1, .str n_2.2, .int .i64 0] [])))) (by kernel_rfl) ?_
 simp only [Tree.holds, zd]
 refine ⟨a, ⟨by simp, ha⟩, ⟨_, rfl⟩, ?_⟩
 rintro _ rfl
 refine ⟨fun h => ?_, fun h => ⟨b, ⟨by simp, hb⟩, ⟨_, rfl⟩, ?_⟩⟩
 ·have h : errR a ≠ 0 := by simpa using h
  rw [if_neg h, if_pos h] at hq
  refine ⟨a, ⟨by simp, ha⟩, ⟨_, rfl⟩, ?_⟩
  rintro _ rfl
  exact RetR.scal hq rfl (by simp [resV])
 ·have h : errR a = 0 := by simpa using h
  rw [if_pos h] at hq
  rintro _ rfl
  refine ⟨fun g => ?_, fun g => ⟨a, ⟨by simp, by show a.length < _; omega⟩, ⟨_, rfl⟩, ?_⟩⟩
  ·have g : errR b ≠ 0 := by simpa using g
   rw [if_pos g] at hq
   refine ⟨b, ⟨by simp, hb⟩, ⟨_, rfl⟩, ?_⟩
   rintro _ rfl
   exact RetR.scal hq rfl (by simp [resV])
  ·have g : errR b = 0 := by simpa using g
   rw [if_neg (by rw [g]; simp)] at hq
   rintro _ rfl
   refine ⟨b, ⟨by simp, by show b.length < _; omega⟩, ⟨_, rfl⟩, ?_⟩
   rintro _ rfl
   exact RetR.scal hq rfl (by simp [resV, numR, denR])
def yC (a b : List UInt8) : List UInt8 × List UInt8 × Int := if zq a b ≠ 0 then ([], [], zq a b) else ((mulI (numR a) (denR b)).1, (mulI (numR b) (denR a)).1, 0)
def KM : Ctr := ctrP true (fun p : List UInt8 × List UInt8 => [.str p.1, .str p.2]) (fun p => p.1.length < 2 ^ 39 ∧ p.2.length < 2 ^ 39) (fun p r => r = yC p.1 p.2) (fun _ r => (.tup [.str r.1, .str r.2.1, .int .i64 r.2.2], []))
def GRc : Nat → Option Ctr := fun f => if f = 84 then some (Jt) else if f = 86 then some (YG) else none
theorem zfw : ∀ g c, GRc g = some c → zc Tryz.prog g c := okIf ZD (okIf KC (okNone))
theorem XU : zc Tryz.prog 83 KM := by
 refine ze (fn := Tryz.f83) (c := Tryz.f83.body.getD .skip) rfl rfl rfl fun p hp O w0 Q hq => ?_
 obtain ⟨a, b⟩ := p
 obtain ⟨ha, hb⟩ := hp
 replace hq := hq _ rfl
 simp only at ha hb hq
 have ea : zq a b = if zL a b ≠ 0 then zL a b else if (mulI (numR a) (denR b)).2 ≠ 0 ∨ (mulI (numR b) (denR a)).2 ≠ 0 then 14 else 0 := rfl
 unfold yC at hq
 refine zb.run hmix zfw [] 400 (T := .ex (fun (x : List UInt8 × List UInt8) => eqL [AV.str a, AV.str b] [AV.str x.1, AV.str x.2] ∧ x.1.length < 1099511627776 ∧ x.2.length < 1099511627776) fun n => .all (fun (r : Q4) => r = xh n.1 n.2) fun n => .ite (!decide (Q4.e n = 0)) (.leaf (.ret [.str (Array.toList #[]), .str (Array.toList #[]), .int .i64 n.e] [])) (.ex (fun (x : List UInt8 × List UInt8) => eqL [AV.str n.n, AV.str n.c] [AV.str x.1, AV.str x.2] ∧ x.1.length < 1099511627776 ∧ x.2.length < 1099511627776) fun n_1 => .all (fun (r : List UInt8 × Int) => r = mulI n_1.1 n_1.2) fun n_2 => .ex (fun (x : List UInt8 × List UInt8) => eqL [AV.str n.m, AV.str n.d] [AV.str x.1, AV.str x.2] ∧ x.1.length < 1099511627776 ∧ x.2.length < 1099511627776) fun n => .all (fun (r : List UInt8 × Int) => r = mulI n.1 n.2) fun n => .ite (bif !decide (n_2.2 = 0) then true else !decide (n.2 = 0)) (.leaf (.ret [.str (Array.toList #[]), .str (Array.toList #[]), .int .i64 14] [])) (.leaf (.ret [.str n_2.1, .str n.1, .int .i64 0] [])))) (by kernel_rfl) ?_
 simp only [Tree.holds, zd]
 refine ⟨(a, b), ⟨⟨rfl, rfl, trivial⟩, by show a.length < _; omega, by show b.length < _; omega⟩, ⟨_, rfl⟩, ?_⟩
 rintro _ rfl
 simp only [xh]
 by_cases he : zL a b = 0
 ·rw [if_neg (by rw [he]; simp)]
  rw [he, if_neg (by simp)] at ea
  have l1 := vw a
  have l2 := jQ a
  have l3 := vw b
  have l4 := jQ b
  refine ⟨fun h => (by cases h), fun _ => ?_⟩
  refine ⟨(numR a, denR b), ⟨⟨rfl, rfl, trivial⟩, by simp only; omega, by simp only; omega⟩, ⟨_, rfl⟩, ?_⟩
  rintro _ rfl
  refine ⟨(numR b, denR a), ⟨⟨rfl, rfl, trivial⟩, by simp only; omega, by simp only; omega⟩, ⟨_, rfl⟩, ?_⟩
  rintro _ rfl
  simp only
  by_cases h1 : (mulI (numR a) (denR b)).2 = 0
  ·by_cases h2 : (mulI (numR b) (denR a)).2 = 0
   ·rw [if_neg (by simp [h1, h2])] at ea
    rw [ea, if_neg (by simp)] at hq
    refine ⟨fun h => (by simp [h1, h2] at h), fun _ => RetR.scal hq rfl (by simp [resV])⟩
   ·rw [if_pos (.inr h2)] at ea
    rw [ea, if_pos (by decide)] at hq
    refine ⟨fun _ => RetR.scal hq rfl (by simp [resV]), fun h => (by simp [h1, h2] at h)⟩
  ·rw [if_pos (.inl h1)] at ea
   rw [ea, if_pos (by decide)] at hq
   refine ⟨fun _ => RetR.scal hq rfl (by simp [resV]), fun h => (by simp [h1] at h)⟩
 ·rw [if_pos he]
  rw [if_pos he] at ea
  rw [ea, if_pos he] at hq
  refine ⟨fun _ => RetR.scal hq rfl (by simp [resV]), fun h => (by simp [he] at h)⟩
structure QF where
 n : List UInt8
 d : List UInt8
 e : Int
 f : Int
def U5 : Ctr := ctrP true (fun k : QF => [.str k.n, .str k.d, .int .i64 k.e, .int .i64 k.f]) (fun k => k.n.length < 2 ^ 40 ∧ k.d.length < 2 ^ 40) (fun k r => r = frac (k.n, k.e) (k.d, k.f)) (fun _ r => (.tup [.str r.1, .int .i64 r.2], []))
def GRg : Nat → Option Ctr := fun f => if f = 121 then some (Ji) else none
theorem zf9 : ∀ g c, GRg g = some c → zc Tryz.prog g c := okIf YD (okNone)
theorem zb1 : zc Tryz.prog 87 U5 := by
 refine ze (fn := Tryz.f87) (c := Tryz.f87.body.getD .skip) rfl rfl rfl fun k hk O w0 Q hq => ?_
 obtain ⟨n, d, e, f⟩ := k
 obtain ⟨hn, hd⟩ := hk
 replace hq := hq _ rfl
 simp only at hn hd hq
 unfold frac at hq
 refine zb.run hmix zf9 [] 400 (T := .ite (bif !decide (e = 0) then true else !decide (f = 0)) (.leaf (.ret [.str (Array.toList #[]), .int .i64 14] [])) (.ex (fun (x : List UInt8 × List UInt8) => eqL [AV.str n, AV.str d] [AV.str x.1, AV.str x.2] ∧ x.1.length < 1099511627776 ∧ x.2.length < 1099511627776) fun n => .all (fun (r : List UInt8 × Int) => r = q9 n.1 n.2) fun n => .leaf (.ret [.str n.1, .int .i64 n.2] []))) (by kernel_rfl) ?_
 simp only [Tree.holds, zd]
 by_cases h : e ≠ 0 ∨ f ≠ 0
 ·rw [if_pos h] at hq
  refine ⟨fun _ => RetR.scal hq rfl (by simp [resV]), fun g => ?_⟩
  exfalso
  by_cases h1 : e = 0
  ·have h2 : f ≠ 0 := h.resolve_left (by simp [h1])
   simp [h1, h2] at g
  ·simp [h1] at g
 ·rw [if_neg h] at hq
  simp only [not_or, Classical.not_not] at h
  refine ⟨fun g => (by simp [h.1, h.2] at g), fun _ => ⟨(n, d), ⟨⟨rfl, rfl, trivial⟩, hn, hd⟩, ⟨_, rfl⟩, ?_⟩⟩
  rintro _ rfl
  exact RetR.scal hq rfl (by simp [resV])
def zbc : Ctr := ctrP true (fun s : List UInt8 => [.str s]) (fun s => 0 < s.length ∧ s.length < 2 ^ 40) (fun s r => r = negS s) (fun _ r => (.str r, []))
theorem za6 : zc Tryz.prog 88 zbc := by
 refine ze (fn := Tryz.f88) (c := Tryz.f88.body.getD .skip) rfl rfl rfl fun s hp O w0 Q hq => ?_
 obtain ⟨h0, hl⟩ := hp
 replace hq := hq _ rfl
 unfold negS at hq
 refine zb.run hmix zo [] 400 (T := .ite (decide (s = Array.toList #[(48 : UInt8)])) (.leaf (.ret [.str s] [])) (.side ((0 : Int) ≤ 0 ∧ (0 : Int) < s.length) (.ite (decide ((↑(UInt8.toNat (List.getD s 0 (0 : UInt8))) : Int) = 45)) (.side ((0 : Int) ≤ 1 ∧ (1 : Int) ≤ s.length) (.leaf (.ret [.str (List.drop 1 (List.take s.length s))] []))) (.side (1 + s.length ≤ 9223372036854775807) (.leaf (.ret [.str (Array.toList #[(45 : UInt8)] ++ s)] [])))))) (by kernel_rfl) ?_
 simp only [Tree.holds, zd, inR, lo, hi, Int.toNat_natCast]
 refine ⟨fun h => ?_, fun h => ⟨⟨by omega, by omega⟩, fun _ => ⟨fun g => ⟨by omega, fun _ => ?_⟩, fun g => ⟨by show 1 + s.length ≤ _; omega, fun _ => ?_⟩⟩⟩⟩
 ·have h : s = [48] := by simpa using h
  rw [if_pos h] at hq
  exact RetR.scal hq rfl (by simp [resV])
 ·have h : s ≠ [48] := of_decide_eq_false h
  have g : s.getD 0 0 = 45 := xc (of_decide_eq_true g)
  rw [if_neg h, if_pos g] at hq
  have e : List.drop (Int.toNat 1) (List.take s.length s) = s.drop 1 := by rw [List.take_length]; rfl
  exact RetR.scal hq rfl (by simp [resV])
 ·have h : s ≠ [48] := of_decide_eq_false h
  have g : ¬ s.getD 0 0 = 45 := fun h5 => of_decide_eq_false g (by rw [h5]; rfl)
  rw [if_neg h, if_neg g] at hq
  exact RetR.scal hq rfl (by simp [resV])
def Kb : Ctr := ctrP true (fun p : List UInt8 × List UInt8 => [.str p.1, .str p.2]) (fun p => p.1.length < 2 ^ 39 ∧ p.2.length < 2 ^ 39) (fun p r => r = addR p.1 p.2) (fun _ r => (.tup [.str r.1, .int .i64 r.2], []))
def Y9 : Ctr := ctrP true (fun p : List UInt8 × List UInt8 => [.str p.1, .str p.2]) (fun p => p.1.length < 2 ^ 38 ∧ p.2.length < 2 ^ 38) (fun p r => r = subR p.1 p.2) (fun _ r => (.tup [.str r.1, .int .i64 r.2], []))
def za2 : Ctr := ctrP true (fun p : List UInt8 × List UInt8 => [.str p.1, .str p.2]) (fun p => p.1.length < 2 ^ 39 ∧ p.2.length < 2 ^ 39) (fun p r => r = mulR p.1 p.2) (fun _ r => (.tup [.str r.1, .int .i64 r.2], []))
def zaq : Ctr := ctrP true (fun p : List UInt8 × List UInt8 => [.str p.1, .str p.2]) (fun p => p.1.length < 2 ^ 39 ∧ p.2.length < 2 ^ 39) (fun p r => r = cmpR p.1 p.2) (fun _ r => (.tup [.int .i64 r.1, .int .i64 r.2], []))
def GRh : Nat → Option Ctr := fun f => if f = 84 then some (Jt) else if f = 83 then some (KM) else if f = 85 then some (zbi) else if f = 86 then some (YG) else if f = 87 then some (U5) else if f = 89 then some (Vn) else none
theorem WQ : ∀ g c, GRh g = some c → zc Tryz.prog g c := okIf ZD (okIf XU (okIf zdj (okIf KC (okIf zb1 (okIf UP (okNone))))))
theorem WG : zc Tryz.prog 49 Kb := by
 refine ze (fn := Tryz.f49) (c := Tryz.f49.body.getD .skip) rfl rfl rfl fun p hp O w0 Q hq => ?_
 obtain ⟨a, b⟩ := p
 obtain ⟨ha, hb⟩ := hp
 replace hq := hq _ rfl
 simp only at ha hb hq
 unfold addR at hq
 refine zb.run hmix WQ [] 400 (T := .ex (fun (x : List UInt8 × List UInt8) => eqL [AV.str a, AV.str b] [AV.str x.1, AV.str x.2] ∧ x.1.length < 549755813888 ∧ x.2.length < 549755813888) fun n => .all (fun (r : List UInt8 × List UInt8 × Int) => r = yC n.1 n.2) fun n => .ite (!decide (n.2.2 = 0)) (.leaf (.ret [.str (Array.toList #[]), .int .i64 (n.2.2)] [])) (.ex (fun (x : List UInt8 × List UInt8) => eqL [AV.str a, AV.str b] [AV.str x.1, AV.str x.2] ∧ x.1.length < 1099511627776 ∧ x.2.length < 1099511627776) fun n_1 => .all (fun (r : Q4) => r = xh n_1.1 n_1.2) fun n_2 => .ex (fun (x : List UInt8 × List UInt8) => eqL [AV.str n.1, AV.str (n.2.1)] [AV.str x.1, AV.str x.2] ∧ x.1.length < 1099511627776 ∧ x.2.length < 1099511627776) fun n => .all (fun (r : List UInt8 × Int) => r = addI n.1 n.2) fun n => .ex (fun (x : List UInt8 × List UInt8) => eqL [AV.str n_2.d, AV.str n_2.c] [AV.str x.1, AV.str x.2] ∧ x.1.length < 1099511627776 ∧ x.2.length < 1099511627776) fun n_3 => .all (fun (r : List UInt8 × Int) => r = mulI n_3.1 n_3.2) fun n_4 => .ex (fun (x : QF) => eqL [AV.str n.1, AV.str n_4.1, AV.int .i64 n.2, AV.int .i64 n_4.2] [AV.str x.n, AV.str x.d, AV.int .i64 x.e, AV.int .i64 x.f] ∧ x.n.length < 1099511627776 ∧ x.d.length < 1099511627776) fun n => .all (fun (r : List UInt8 × Int) => r = frac (QF.n n, QF.e n) (QF.d n, QF.f n)) fun n => .leaf (.ret [.str n.1, .int .i64 n.2] []))) (by kernel_rfl) ?_
 simp only [Tree.holds, zd]
 refine ⟨(a, b), ⟨⟨rfl, rfl, trivial⟩, ha, hb⟩, ⟨_, rfl⟩, ?_⟩
 rintro _ rfl
 simp only [yC]
 by_cases he : zq a b = 0
 ·rw [if_neg (by rw [he]; simp)] at hq ⊢
  refine ⟨fun h => (by cases h), fun _ => ?_⟩
  have h2 : zL a b = 0 := by
   refine Decidable.byContradiction fun h => ?_
   unfold zq at he
   rw [if_pos h] at he
   exact h he
  have l1 := qQ (numR a) (denR b)
  have l2 := qQ (numR b) (denR a)
  have l3 := jQ a
  have l4 := jQ b
  have l5 := qQ (denR a) (denR b)
  have l6 := uB (mulI (numR a) (denR b)).1 (mulI (numR b) (denR a)).1
  refine ⟨(a, b), ⟨⟨rfl, rfl, trivial⟩, by show a.length < _; omega, by show b.length < _; omega⟩, ⟨_, rfl⟩, ?_⟩
  rintro _ rfl
  simp only [xh]
  rw [if_neg (by rw [h2]; simp)]
  refine ⟨((mulI (numR a) (denR b)).1, (mulI (numR b) (denR a)).1), ⟨⟨rfl, rfl, trivial⟩, by simp only; omega, by simp only; omega⟩, ⟨_, rfl⟩, ?_⟩
  rintro _ rfl
  refine ⟨(denR a, denR b), ⟨⟨rfl, rfl, trivial⟩, by simp only; omega, by simp only; omega⟩, ⟨_, rfl⟩, ?_⟩
  rintro _ rfl
  refine ⟨⟨_, _, _, _⟩, ⟨⟨rfl, rfl, ⟨rfl, rfl⟩, ⟨rfl, rfl⟩, trivial⟩, Nat.lt_of_le_of_lt (uB _ _) (by decide), Nat.lt_of_le_of_lt (qQ _ _) (by decide)⟩, ⟨_, rfl⟩, ?_⟩
  rintro _ rfl
  exact RetR.scal hq rfl (by simp [resV])
 ·rw [if_pos he] at hq ⊢
  refine ⟨fun _ => RetR.scal hq rfl (by simp [resV]), fun h => (by simp [he] at h)⟩
theorem Ud : zc Tryz.prog 51 za2 := by
 refine ze (fn := Tryz.f51) (c := Tryz.f51.body.getD .skip) rfl rfl rfl fun p hp O w0 Q hq => ?_
 obtain ⟨a, b⟩ := p
 obtain ⟨ha, hb⟩ := hp
 replace hq := hq _ rfl
 simp only at ha hb hq
 unfold mulR at hq
 refine zb.run hmix WQ [] 400 (T := .ex (fun (x : List UInt8 × List UInt8) => eqL [AV.str a, AV.str b] [AV.str x.1, AV.str x.2] ∧ x.1.length < 1099511627776 ∧ x.2.length < 1099511627776) fun n => .all (fun (r : Q4) => r = xh n.1 n.2) fun n => .ite (!decide (Q4.e n = 0)) (.leaf (.ret [.str (Array.toList #[]), .int .i64 n.e] [])) (.ex (fun (x : List UInt8 × List UInt8) => eqL [AV.str n.n, AV.str n.m] [AV.str x.1, AV.str x.2] ∧ x.1.length < 1099511627776 ∧ x.2.length < 1099511627776) fun n_1 => .all (fun (r : List UInt8 × Int) => r = mulI n_1.1 n_1.2) fun n_2 => .ex (fun (x : List UInt8 × List UInt8) => eqL [AV.str n.d, AV.str n.c] [AV.str x.1, AV.str x.2] ∧ x.1.length < 1099511627776 ∧ x.2.length < 1099511627776) fun n => .all (fun (r : List UInt8 × Int) => r = mulI n.1 n.2) fun n => .ex (fun (x : QF) => eqL [AV.str n_2.1, AV.str n.1, AV.int .i64 n_2.2, AV.int .i64 n.2] [AV.str x.n, AV.str x.d, AV.int .i64 x.e, AV.int .i64 x.f] ∧ x.n.length < 1099511627776 ∧ x.d.length < 1099511627776) fun n => .all (fun (r : List UInt8 × Int) => r = frac (QF.n n, QF.e n) (QF.d n, QF.f n)) fun n => .leaf (.ret [.str n.1, .int .i64 n.2] []))) (by kernel_rfl) ?_
 simp only [Tree.holds, zd]
 refine ⟨(a, b), ⟨⟨rfl, rfl, trivial⟩, by show a.length < _; omega, by show b.length < _; omega⟩, ⟨_, rfl⟩, ?_⟩
 rintro _ rfl
 simp only [xh]
 by_cases he : zL a b = 0
 ·rw [if_neg (by rw [he]; simp)] at hq ⊢
  refine ⟨fun h => (by cases h), fun _ => ?_⟩
  have l1 := vw a
  have l2 := vw b
  have l3 := jQ a
  have l4 := jQ b
  have l5 := qQ (denR a) (denR b)
  have l6 := qQ (numR a) (numR b)
  refine ⟨(numR a, numR b), ⟨⟨rfl, rfl, trivial⟩, by simp only; omega, by simp only; omega⟩, ⟨_, rfl⟩, ?_⟩
  rintro _ rfl
  refine ⟨(denR a, denR b), ⟨⟨rfl, rfl, trivial⟩, by simp only; omega, by simp only; omega⟩, ⟨_, rfl⟩, ?_⟩
  rintro _ rfl
  refine ⟨⟨_, _, _, _⟩, ⟨⟨rfl, rfl, ⟨rfl, rfl⟩, ⟨rfl, rfl⟩, trivial⟩, Nat.lt_of_le_of_lt (qQ _ _) (by decide), Nat.lt_of_le_of_lt (qQ _ _) (by decide)⟩, ⟨_, rfl⟩, ?_⟩
  rintro _ rfl
  exact RetR.scal hq rfl (by simp [resV])
 ·rw [if_pos he] at hq ⊢
  refine ⟨fun _ => RetR.scal hq rfl (by simp [resV]), fun h => (by simp [he] at h)⟩
theorem U8 : zc Tryz.prog 52 zaq := by
 refine ze (fn := Tryz.f52) (c := Tryz.f52.body.getD .skip) rfl rfl rfl fun p hp O w0 Q hq => ?_
 obtain ⟨a, b⟩ := p
 obtain ⟨ha, hb⟩ := hp
 replace hq := hq _ rfl
 simp only at ha hb hq
 unfold cmpR at hq
 refine zb.run hmix WQ [] 400 (T := .ex (fun (x : List UInt8 × List UInt8) => eqL [AV.str a, AV.str b] [AV.str x.1, AV.str x.2] ∧ x.1.length < 549755813888 ∧ x.2.length < 549755813888) fun n => .all (fun (r : List UInt8 × List UInt8 × Int) => r = yC n.1 n.2) fun n => .ite (!decide (n.2.2 = 0)) (.leaf (.ret [.int .i64 0, .int .i64 (n.2.2)] [])) (.ex (fun (x : List UInt8 × List UInt8) => eqL [AV.str n.1, AV.str (n.2.1)] [AV.str x.1, AV.str x.2] ∧ x.1.length < 1099511627776 ∧ x.2.length < 1099511627776) fun n => .all (fun (r : Int × Int) => r = wP n.1 n.2) fun n => .leaf (.ret [.int .i64 n.1, .int .i64 n.2] []))) (by kernel_rfl) ?_
 simp only [Tree.holds, zd]
 refine ⟨(a, b), ⟨⟨rfl, rfl, trivial⟩, ha, hb⟩, ⟨_, rfl⟩, ?_⟩
 rintro _ rfl
 simp only [yC]
 by_cases he : zq a b = 0
 ·rw [if_neg (by rw [he]; simp)] at hq ⊢
  refine ⟨fun h => (by cases h), fun _ => ?_⟩
  have l1 := qQ (numR a) (denR b)
  have l2 := qQ (numR b) (denR a)
  refine ⟨((mulI (numR a) (denR b)).1, (mulI (numR b) (denR a)).1), ⟨⟨rfl, rfl, trivial⟩, by simp only; omega, by simp only; omega⟩, ⟨_, rfl⟩, ?_⟩
  rintro _ rfl
  exact RetR.scal hq rfl (by simp [resV])
 ·rw [if_pos he] at hq ⊢
  refine ⟨fun _ => RetR.scal hq rfl (by simp [resV]), fun h => (by simp [he] at h)⟩
def GRi : Nat → Option Ctr := fun f => if f = 84 then some (Jt) else if f = 49 then some (Kb) else if f = 88 then some (zbc) else none
theorem zem : ∀ g c, GRi g = some c → zc Tryz.prog g c := okIf ZD (okIf WG (okIf za6 (okNone)))
theorem UJ : zc Tryz.prog 50 Y9 := by
 refine ze (fn := Tryz.f50) (c := Tryz.f50.body.getD .skip) rfl rfl rfl fun p hp O w0 Q hq => ?_
 obtain ⟨a, b⟩ := p
 obtain ⟨ha, hb⟩ := hp
 replace hq := hq _ rfl
 simp only at ha hb hq
 refine zb.run hmix zem [] 400 (T := .ex (fun (x : List UInt8 × List UInt8) => eqL [AV.str a, AV.str b] [AV.str x.1, AV.str x.2] ∧ x.1.length < 1099511627776 ∧ x.2.length < 1099511627776) fun n => .all (fun (r : Q4) => r = xh n.1 n.2) fun n => .ite (!decide (Q4.e n = 0)) (.leaf (.ret [.str (Array.toList #[]), .int .i64 n.e] [])) (.ex (fun (x : List UInt8) => eqL [AV.str b] [AV.str x] ∧ 0 < x.length ∧ x.length < 1099511627776) fun n => .all (fun (r : List UInt8) => r = negS n) fun n => .ex (fun (x : List UInt8 × List UInt8) => eqL [AV.str a, AV.str n] [AV.str x.1, AV.str x.2] ∧ x.1.length < 549755813888 ∧ x.2.length < 549755813888) fun n => .all (fun (r : List UInt8 × Int) => r = addR n.1 n.2) fun n => .leaf (.ret [.str n.1, .int .i64 n.2] []))) (by kernel_rfl) ?_
 simp only [Tree.holds, zd]
 refine ⟨(a, b), ⟨⟨rfl, rfl, trivial⟩, by show a.length < _; omega, by show b.length < _; omega⟩, ⟨_, rfl⟩, ?_⟩
 rintro _ rfl
 simp only [xh]
 by_cases he : zL a b = 0
 ·rw [if_neg (by rw [he]; simp)]
  refine ⟨fun h => (by cases h), fun _ => ?_⟩
  have hab : errR a = 0 ∧ errR b = 0 := by
   unfold zL at he
   split at he
   ·rename_i h; exact ⟨h, he⟩
   ·rename_i h; exact absurd he h
  have hb0 : 0 < b.length := by
   refine List.length_pos_iff.2 ?_
   rintro rfl
   exact absurd hab.2 (by decide)
  have hnl : (negS b).length ≤ b.length + 1 := by
   unfold negS
   split
   ·omega
   ·split <;> simp <;> omega
  refine ⟨b, ⟨by simp, hb0, by omega⟩, ⟨_, rfl⟩, ?_⟩
  rintro _ rfl
  refine ⟨(a, negS b), ⟨⟨rfl, rfl, trivial⟩, by show a.length < _; omega, by simp only; omega⟩, ⟨_, rfl⟩, ?_⟩
  rintro _ rfl
  rw [← sub_neg hab.1 hab.2] at hq
  exact RetR.scal hq rfl (by simp [resV])
 ·rw [if_pos he]
  have e : subR a b = ([], zL a b) := by
   have : zq a b = zL a b := by unfold zq; rw [if_pos he]
   unfold subR
   rw [this, if_pos he]
  rw [e] at hq
  refine ⟨fun _ => RetR.scal hq rfl (by simp [resV]), fun h => (by simp [he] at h)⟩
end Go.Proofs.Tryz
end
