/- Part 6 of the proof. -/
import Derived.Test.YtmebjiaogdkfpaaDoorSxe
set_option linter.unusedVariables false
set_option linter.unusedSimpArgs false
set_option linter.unusedSectionVars false

/- Rationals: sums, differences, products, comparisons. -/
section
set_option maxRecDepth 100000
open Go Go.Sx Go.Proofs Go.Nov
namespace Go.Proofs.Tryd
attribute [local simp] eqKV eqA eqA0 eqH eqB eqL eqL0
theorem wW (a b : List UInt8) : ((qO a b).e ≠ 0 ∧ jt a b = (qO a b).e) ∨ ((qO a b).e = 0 ∧ errR a = 0 ∧ errR b = 0 ∧ (qO a b).n = numR a ∧ (qO a b).m = numR b ∧ (qO a b).d = denR a ∧ (qO a b).c = denR b) := by
 unfold qO
 by_cases ha : errR a = 0
 ·rw [if_neg (by rw [ha]; simp)]
  by_cases hb : errR b = 0
  ·rw [if_neg (by rw [hb]; simp)]
   exact .inr ⟨rfl, ha, hb, rfl, rfl, rfl, rfl⟩
  ·rw [if_pos hb]
   exact .inl ⟨hb, by unfold jt; rw [if_pos ha]⟩
 ·rw [if_pos ha]
  exact .inl ⟨ha, by unfold jt; rw [if_neg ha]⟩
theorem kA (a b : List UInt8) : (qO a b).n.length ≤ a.length ∧ (qO a b).m.length ≤ b.length ∧ (qO a b).d.length ≤ a.length + 1 ∧ (qO a b).c.length ≤ b.length + 1 := by
 have h1 := Jh a
 have h2 := Jh b
 have h3 := Wr a
 have h4 := Wr b
 unfold qO
 split
 ·simp
 ·split
  ·simp; omega
  ·simp only; omega
theorem kx_l (x y : List UInt8) : eqL [.str x, .str y, .ptr 0 0, .ptr 2 0] [.str x, .str y, .ptr 0 0, .ptr 2 0] := ⟨rfl, rfl, ⟨rfl, rfl⟩, ⟨rfl, rfl⟩, trivial⟩
theorem kx_b (p : Pr) : eqH [.box [.str p.n, .str p.m, .str p.d, .str p.c, .int .i64 p.e]] [.box [.str p.n, .str p.m, .str p.d, .str p.c, .int .i64 p.e]] := ⟨⟨rfl, rfl, rfl, rfl, ⟨rfl, rfl⟩, trivial⟩, trivial⟩
theorem kx_h (p : Pr) (f : Nat) : eqH [.box [.ptr 1 0], .box [.str p.n, .str p.m, .str p.d, .str p.c, .int .i64 p.e], .box [.fn f [] []]] [.box [.ptr 1 0], .box [.str p.n, .str p.m, .str p.d, .str p.c, .int .i64 p.e], .box [.fn f [] []]] := ⟨⟨⟨rfl, rfl⟩, trivial⟩, (kx_b p).1, ⟨rfl, trivial⟩, trivial⟩
theorem kx_k (f : Nat) : eqL [.ptr 0 0, .fn f [] []] [.ptr 0 0, .fn f [] []] := ⟨⟨rfl, rfl⟩, rfl, trivial⟩
theorem kx_m (x y : List UInt8) : eqL [.ptr 0 0, .str x, .str y] [.ptr 0 0, .str x, .str y] := ⟨⟨rfl, rfl⟩, rfl, rfl, trivial⟩
theorem qa (p : Pr) (o : QOp) (x y : List UInt8) {r : List UInt8 × Int} (h : r = if p.e ≠ 0 then ([], p.e) else o.op x y) : r.1.length ≤ 1001 := by
 rw [h]
 refine zaq ?_
 cases o
 ·exact Uk x y
 ·exact Ub x y
 ·exact Ui x y
noncomputable def GQA : Nat → Option Ctr := fun f => if f = 93 then some (Uu) else if f = 94 then some (Ua) else if f = 102 then some (WC) else if f = 137 then some (XE) else if f = 96 then some (zbo) else none
theorem QJ : ∀ g c, GQA g = some c → zb Tryd.prog g c := okIf Yh (okIf Uz (okIf Y1 (okIf zae (okIf zav (zp)))))
def Ko : Ctr := ctrP true (fun p : List UInt8 × List UInt8 => [.str p.1, .str p.2]) (fun p => p.1.length < 2 ^ 61 ∧ p.2.length < 2 ^ 61) (fun p r => r = addR p.1 p.2) (fun _ r => (.tup [.str r.1, .int .i64 r.2], []))
def Ku : Ctr := ctrP true (fun p : List UInt8 × List UInt8 => [.str p.1, .str p.2]) (fun p => p.1.length < 2 ^ 61 ∧ p.2.length < 2 ^ 61) (fun p r => r = subR p.1 p.2) (fun _ r => (.tup [.str r.1, .int .i64 r.2], []))
def VP : Ctr := ctrP true (fun p : List UInt8 × List UInt8 => [.str p.1, .str p.2]) (fun p => p.1.length < 2 ^ 61 ∧ p.2.length < 2 ^ 61) (fun p r => r = mulR p.1 p.2) (fun _ r => (.tup [.str r.1, .int .i64 r.2], []))
def zce : Ctr := ctrP true (fun p : List UInt8 × List UInt8 => [.str p.1, .str p.2]) (fun p => p.1.length < 2 ^ 61 ∧ p.2.length < 2 ^ 61) (fun p r => r = cmpR p.1 p.2) (fun _ r => (.tup [.int .i64 r.1, .int .i64 r.2], []))
theorem QU : zb Tryd.prog 133 Ko := by
 refine zg (fn := Tryd.f133) (c := Tryd.f133.body.getD .skip) rfl rfl rfl fun p hp O w0 Q hq => ?_
 obtain ⟨a, b⟩ := p
 obtain ⟨h1, h2⟩ := hp
 replace hq := hq _ rfl
 simp only at h1 h2 hq
 refine zc.run hmix QJ [] 400 (T := .ex (fun (x : List UInt8 × List UInt8) => eqL [AV.str a, AV.str b] [AV.str x.1, AV.str x.2] ∧ eqH [] [] ∧ 0 = 0 ∧ x.1.length < 4611686018427387904 ∧ x.2.length < 4611686018427387904) fun n => .all (fun (r : Pr) => r = qO n.1 n.2) fun n => .ex (fun (x : Pr × QOp) => eqL [AV.ptr 0 0, AV.fn 95 [] []] [AV.ptr 0 0, AV.fn (QOp.fn x.2) [] []] ∧ eqH [.box [AV.str n.n, AV.str n.m, AV.str n.d, AV.str n.c, AV.int .i64 n.e]] [.box [AV.str x.1.n, AV.str x.1.m, AV.str x.1.d, AV.str x.1.c, AV.int .i64 x.1.e]] ∧ 1 = 1 ∧ True) fun n => .all (fun (x : Unit) => True) fun n_1 => .ex (fun (x : Pr × QOp) => eqL [AV.ptr 0 0, AV.fn 136 [] []] [AV.ptr 0 0, AV.fn (QOp.fn x.2) [] []] ∧ eqH [.box [AV.str n.1.n, AV.str n.1.m, AV.str n.1.d, AV.str n.1.c, AV.int .i64 n.1.e]] [.box [AV.str x.1.n, AV.str x.1.m, AV.str x.1.d, AV.str x.1.c, AV.int .i64 x.1.e]] ∧ 1 = 1 ∧ True) fun n_2 => .all (fun (x : Unit) => True) fun n_3 => .side ((0 : Int) ≤ 0 ∧ (0 : Int) < 2) (.side ((0 : Int) ≤ 1 ∧ (1 : Int) < 2) (.side ((0 : Int) ≤ 1 ∧ (1 : Int) < 2) (.side ((0 : Int) ≤ 0 ∧ (0 : Int) < 2) (.side ((0 : Int) ≤ 0 ∧ (0 : Int) < 2) (.side ((0 : Int) ≤ 1 ∧ (1 : Int) < 2) (.ex (fun (x : KX) => eqL [AV.str n_2.1.n, AV.str n_2.1.c, AV.ptr 0 0, AV.ptr 2 0] [AV.str x.x, AV.str x.y, AV.ptr 0 0, AV.ptr 2 0] ∧ eqH [.box [AV.ptr 1 0], .box [AV.str n_2.1.n, AV.str n_2.1.m, AV.str n_2.1.d, AV.str n_2.1.c, AV.int .i64 n_2.1.e], .box [AV.fn (QOp.fn n.2) [] []]] [.box [AV.ptr 1 0], .box [AV.str x.p.n, AV.str x.p.m, AV.str x.p.d, AV.str x.p.c, AV.int .i64 x.p.e], .box [AV.fn (QOp.fn x.o) [] []]] ∧ 3 = 3 ∧ x.x.length < 4611686018427387904 ∧ x.y.length < 4611686018427387904) fun n => .all (fun (r : List UInt8 × Int) => r = if Pr.e n.p ≠ 0 then ([], Pr.e n.p) else QOp.op n.o n.x n.y) fun n_4 => .side (Pr.c (Pr.err n.p n_4.2) = Pr.c n_2.1) (.side (Pr.d (Pr.err n.p n_4.2) = Pr.d n_2.1) (.side (Pr.d (Pr.err n.p n_4.2) = Pr.d n_2.1) (.side (Pr.m (Pr.err n.p n_4.2) = Pr.m n_2.1) (.ex (fun (x : KX) => eqL [AV.str n_2.1.m, AV.str n_2.1.d, AV.ptr 0 0, AV.ptr 2 0] [AV.str x.x, AV.str x.y, AV.ptr 0 0, AV.ptr 2 0] ∧ eqH [.box [AV.ptr 1 0], .box [AV.str (Pr.n (Pr.err n.p n_4.2)), AV.str (Pr.m (Pr.err n.p n_4.2)), AV.str (Pr.d (Pr.err n.p n_4.2)), AV.str (Pr.c (Pr.err n.p n_4.2)), AV.int .i64 (Pr.e (Pr.err n.p n_4.2))], .box [AV.fn (QOp.fn n.o) [] []]] [.box [AV.ptr 1 0], .box [AV.str x.p.n, AV.str x.p.m, AV.str x.p.d, AV.str x.p.c, AV.int .i64 x.p.e], .box [AV.fn (QOp.fn x.o) [] []]] ∧ 3 = 3 ∧ x.x.length < 4611686018427387904 ∧ x.y.length < 4611686018427387904) fun n => .all (fun (r : List UInt8 × Int) => r = if Pr.e n.p ≠ 0 then ([], Pr.e n.p) else QOp.op n.o n.x n.y) fun n_5 => .side (Pr.c (Pr.err n.p n_5.2) = Pr.c n_2.1) (.side (Pr.d (Pr.err n.p n_5.2) = Pr.d n_2.1) (.ex (fun (x : KX) => eqL [AV.str n_4.1, AV.str n_5.1, AV.ptr 0 0, AV.ptr 2 0] [AV.str x.x, AV.str x.y, AV.ptr 0 0, AV.ptr 2 0] ∧ eqH [.box [AV.ptr 1 0], .box [AV.str (Pr.n (Pr.err n.p n_5.2)), AV.str (Pr.m (Pr.err n.p n_5.2)), AV.str (Pr.d (Pr.err n.p n_5.2)), AV.str (Pr.c (Pr.err n.p n_5.2)), AV.int .i64 (Pr.e (Pr.err n.p n_5.2))], .box [AV.fn (QOp.fn n_2.2) [] []]] [.box [AV.ptr 1 0], .box [AV.str x.p.n, AV.str x.p.m, AV.str x.p.d, AV.str x.p.c, AV.int .i64 x.p.e], .box [AV.fn (QOp.fn x.o) [] []]] ∧ 3 = 3 ∧ x.x.length < 4611686018427387904 ∧ x.y.length < 4611686018427387904) fun n_6 => .all (fun (r : List UInt8 × Int) => r = if Pr.e n_6.p ≠ 0 then ([], Pr.e n_6.p) else QOp.op n_6.o n_6.x n_6.y) fun n_7 => .side (Pr.c (Pr.err n_6.p n_7.2) = Pr.c n_2.1) (.side (Pr.d (Pr.err n_6.p n_7.2) = Pr.d n_2.1) (.ex (fun (x : KX) => eqL [AV.str n_2.1.d, AV.str n_2.1.c, AV.ptr 0 0, AV.ptr 2 0] [AV.str x.x, AV.str x.y, AV.ptr 0 0, AV.ptr 2 0] ∧ eqH [.box [AV.ptr 1 0], .box [AV.str (Pr.n (Pr.err n_6.p n_7.2)), AV.str (Pr.m (Pr.err n_6.p n_7.2)), AV.str (Pr.d (Pr.err n_6.p n_7.2)), AV.str (Pr.c (Pr.err n_6.p n_7.2)), AV.int .i64 (Pr.e (Pr.err n_6.p n_7.2))], .box [AV.fn (QOp.fn n.o) [] []]] [.box [AV.ptr 1 0], .box [AV.str x.p.n, AV.str x.p.m, AV.str x.p.d, AV.str x.p.c, AV.int .i64 x.p.e], .box [AV.fn (QOp.fn x.o) [] []]] ∧ 3 = 3 ∧ x.x.length < 4611686018427387904 ∧ x.y.length < 4611686018427387904) fun n => .all (fun (r : List UInt8 × Int) => r = if Pr.e n.p ≠ 0 then ([], Pr.e n.p) else QOp.op n.o n.x n.y) fun n_8 => .ex (fun (x : Pr × List UInt8 × List UInt8) => eqL [AV.ptr 0 0, AV.str n_7.1, AV.str n_8.1] [AV.ptr 0 0, AV.str (x.2.1), AV.str (x.2.2)] ∧ eqH [.box [AV.str (Pr.n (Pr.err n.p n_8.2)), AV.str (Pr.m (Pr.err n.p n_8.2)), AV.str (Pr.d (Pr.err n.p n_8.2)), AV.str (Pr.c (Pr.err n.p n_8.2)), AV.int .i64 (Pr.e (Pr.err n.p n_8.2))]] [.box [AV.str x.1.n, AV.str x.1.m, AV.str x.1.d, AV.str x.1.c, AV.int .i64 x.1.e]] ∧ 1 = 1 ∧ List.length (x.2.1) < 4611686018427387904 ∧ List.length (x.2.2) < 4611686018427387904) fun n_9 => .all (fun (r : List UInt8 × Int) => r = if Pr.e n_9.1 ≠ 0 then ([], Pr.e n_9.1) else j5 (n_9.2.1) (n_9.2.2)) fun n_10 => .leaf (.ret [.str n_10.1, .int .i64 n_10.2] [.box [.str n_9.1.n, .str n_9.1.m, .str n_9.1.d, .str n_9.1.c, .int .i64 n_9.1.e], .box [.ptr 0 0], .box [.fn (QOp.fn n.o) [] []], .box [.ptr 0 0], .box [.fn (QOp.fn n_6.o) [] []]])))))))))))))))) (by kernel_rfl) ?_
 simp only [Tree.holds, zd]
 refine ⟨(a, b), ⟨⟨rfl, rfl, trivial⟩, trivial, by trivial, by show a.length < _; omega, by show b.length < _; omega⟩, ⟨_, rfl⟩, ?_⟩
 intro p hp
 have hc := wW a b
 obtain ⟨l1, l2, l3, l4⟩ := kA a b
 rw [← hp] at hc l1 l2 l3 l4
 refine ⟨(p, .mul), ⟨kx_k _, kx_b p, by trivial, trivial⟩, ⟨(), trivial⟩, ?_⟩
 intro _ _
 refine ⟨(p, .add), ⟨kx_k _, kx_b p, by trivial, trivial⟩, ⟨(), trivial⟩, ?_⟩
 intro _ _
 iterate 6 refine ⟨by decide, fun _ => ?_⟩
 refine ⟨⟨p, .mul, p.n, p.c⟩, ⟨kx_l _ _, kx_h (p) _, by trivial, by show (p.n).length < _; omega, by show (p.c).length < _; omega⟩, ⟨_, rfl⟩, ?_⟩
 intro r1 hr1
 have kr1 := qa _ _ _ _ hr1
 iterate 4 refine ⟨rfl, fun _ => ?_⟩
 refine ⟨⟨p.err r1.2, .mul, p.m, p.d⟩, ⟨kx_l _ _, kx_h (p.err r1.2) _, by trivial, by show (p.m).length < _; omega, by show (p.d).length < _; omega⟩, ⟨_, rfl⟩, ?_⟩
 intro r2 hr2
 have kr2 := qa _ _ _ _ hr2
 iterate 2 refine ⟨rfl, fun _ => ?_⟩
 refine ⟨⟨(p.err r1.2).err r2.2, .add, r1.1, r2.1⟩, ⟨kx_l _ _, kx_h ((p.err r1.2).err r2.2) _, by trivial, by show (r1.1).length < _; omega, by show (r2.1).length < _; omega⟩, ⟨_, rfl⟩, ?_⟩
 intro r3 hr3
 have kr3 := qa _ _ _ _ hr3
 iterate 2 refine ⟨rfl, fun _ => ?_⟩
 refine ⟨⟨((p.err r1.2).err r2.2).err r3.2, .mul, p.d, p.c⟩, ⟨kx_l _ _, kx_h (((p.err r1.2).err r2.2).err r3.2) _, by trivial, by show (p.d).length < _; omega, by show (p.c).length < _; omega⟩, ⟨_, rfl⟩, ?_⟩
 intro r4 hr4
 have kr4 := qa _ _ _ _ hr4
 refine ⟨((((p.err r1.2).err r2.2).err r3.2).err r4.2, r3.1, r4.1), ⟨kx_m _ _, kx_b _, by trivial, by show (r3.1).length < _; omega, by show (r4.1).length < _; omega⟩, ⟨_, rfl⟩, ?_⟩
 intro r5 hr5
 have hfin := y7 hc (fun {s t} => Yk (s := s) (t := t)) hr1 hr2 hr3 hr4 hr5
 have e : r5 = addR a b := hfin
 rw [← e] at hq
 exact RetR.scal hq rfl (by simp [resV])
theorem QW : zb Tryd.prog 134 Ku := by
 refine zg (fn := Tryd.f134) (c := Tryd.f134.body.getD .skip) rfl rfl rfl fun p hp O w0 Q hq => ?_
 obtain ⟨a, b⟩ := p
 obtain ⟨h1, h2⟩ := hp
 replace hq := hq _ rfl
 simp only at h1 h2 hq
 refine zc.run hmix QJ [] 400 (T := .ex (fun (x : List UInt8 × List UInt8) => eqL [AV.str a, AV.str b] [AV.str x.1, AV.str x.2] ∧ eqH [] [] ∧ 0 = 0 ∧ x.1.length < 4611686018427387904 ∧ x.2.length < 4611686018427387904) fun n => .all (fun (r : Pr) => r = qO n.1 n.2) fun n => .ex (fun (x : Pr × QOp) => eqL [AV.ptr 0 0, AV.fn 95 [] []] [AV.ptr 0 0, AV.fn (QOp.fn x.2) [] []] ∧ eqH [.box [AV.str n.n, AV.str n.m, AV.str n.d, AV.str n.c, AV.int .i64 n.e]] [.box [AV.str x.1.n, AV.str x.1.m, AV.str x.1.d, AV.str x.1.c, AV.int .i64 x.1.e]] ∧ 1 = 1 ∧ True) fun n => .all (fun (x : Unit) => True) fun n_1 => .ex (fun (x : Pr × QOp) => eqL [AV.ptr 0 0, AV.fn 138 [] []] [AV.ptr 0 0, AV.fn (QOp.fn x.2) [] []] ∧ eqH [.box [AV.str n.1.n, AV.str n.1.m, AV.str n.1.d, AV.str n.1.c, AV.int .i64 n.1.e]] [.box [AV.str x.1.n, AV.str x.1.m, AV.str x.1.d, AV.str x.1.c, AV.int .i64 x.1.e]] ∧ 1 = 1 ∧ True) fun n_2 => .all (fun (x : Unit) => True) fun n_3 => .side ((0 : Int) ≤ 0 ∧ (0 : Int) < 2) (.side ((0 : Int) ≤ 1 ∧ (1 : Int) < 2) (.side ((0 : Int) ≤ 1 ∧ (1 : Int) < 2) (.side ((0 : Int) ≤ 0 ∧ (0 : Int) < 2) (.side ((0 : Int) ≤ 0 ∧ (0 : Int) < 2) (.side ((0 : Int) ≤ 1 ∧ (1 : Int) < 2) (.ex (fun (x : KX) => eqL [AV.str n_2.1.n, AV.str n_2.1.c, AV.ptr 0 0, AV.ptr 2 0] [AV.str x.x, AV.str x.y, AV.ptr 0 0, AV.ptr 2 0] ∧ eqH [.box [AV.ptr 1 0], .box [AV.str n_2.1.n, AV.str n_2.1.m, AV.str n_2.1.d, AV.str n_2.1.c, AV.int .i64 n_2.1.e], .box [AV.fn (QOp.fn n.2) [] []]] [.box [AV.ptr 1 0], .box [AV.str x.p.n, AV.str x.p.m, AV.str x.p.d, AV.str x.p.c, AV.int .i64 x.p.e], .box [AV.fn (QOp.fn x.o) [] []]] ∧ 3 = 3 ∧ x.x.length < 4611686018427387904 ∧ x.y.length < 4611686018427387904) fun n => .all (fun (r : List UInt8 × Int) => r = if Pr.e n.p ≠ 0 then ([], Pr.e n.p) else QOp.op n.o n.x n.y) fun n_4 => .side (Pr.c (Pr.err n.p n_4.2) = Pr.c n_2.1) (.side (Pr.d (Pr.err n.p n_4.2) = Pr.d n_2.1) (.side (Pr.d (Pr.err n.p n_4.2) = Pr.d n_2.1) (.side (Pr.m (Pr.err n.p n_4.2) = Pr.m n_2.1) (.ex (fun (x : KX) => eqL [AV.str n_2.1.m, AV.str n_2.1.d, AV.ptr 0 0, AV.ptr 2 0] [AV.str x.x, AV.str x.y, AV.ptr 0 0, AV.ptr 2 0] ∧ eqH [.box [AV.ptr 1 0], .box [AV.str (Pr.n (Pr.err n.p n_4.2)), AV.str (Pr.m (Pr.err n.p n_4.2)), AV.str (Pr.d (Pr.err n.p n_4.2)), AV.str (Pr.c (Pr.err n.p n_4.2)), AV.int .i64 (Pr.e (Pr.err n.p n_4.2))], .box [AV.fn (QOp.fn n.o) [] []]] [.box [AV.ptr 1 0], .box [AV.str x.p.n, AV.str x.p.m, AV.str x.p.d, AV.str x.p.c, AV.int .i64 x.p.e], .box [AV.fn (QOp.fn x.o) [] []]] ∧ 3 = 3 ∧ x.x.length < 4611686018427387904 ∧ x.y.length < 4611686018427387904) fun n => .all (fun (r : List UInt8 × Int) => r = if Pr.e n.p ≠ 0 then ([], Pr.e n.p) else QOp.op n.o n.x n.y) fun n_5 => .side (Pr.c (Pr.err n.p n_5.2) = Pr.c n_2.1) (.side (Pr.d (Pr.err n.p n_5.2) = Pr.d n_2.1) (.ex (fun (x : KX) => eqL [AV.str n_4.1, AV.str n_5.1, AV.ptr 0 0, AV.ptr 2 0] [AV.str x.x, AV.str x.y, AV.ptr 0 0, AV.ptr 2 0] ∧ eqH [.box [AV.ptr 1 0], .box [AV.str (Pr.n (Pr.err n.p n_5.2)), AV.str (Pr.m (Pr.err n.p n_5.2)), AV.str (Pr.d (Pr.err n.p n_5.2)), AV.str (Pr.c (Pr.err n.p n_5.2)), AV.int .i64 (Pr.e (Pr.err n.p n_5.2))], .box [AV.fn (QOp.fn n_2.2) [] []]] [.box [AV.ptr 1 0], .box [AV.str x.p.n, AV.str x.p.m, AV.str x.p.d, AV.str x.p.c, AV.int .i64 x.p.e], .box [AV.fn (QOp.fn x.o) [] []]] ∧ 3 = 3 ∧ x.x.length < 4611686018427387904 ∧ x.y.length < 4611686018427387904) fun n_6 => .all (fun (r : List UInt8 × Int) => r = if Pr.e n_6.p ≠ 0 then ([], Pr.e n_6.p) else QOp.op n_6.o n_6.x n_6.y) fun n_7 => .side (Pr.c (Pr.err n_6.p n_7.2) = Pr.c n_2.1) (.side (Pr.d (Pr.err n_6.p n_7.2) = Pr.d n_2.1) (.ex (fun (x : KX) => eqL [AV.str n_2.1.d, AV.str n_2.1.c, AV.ptr 0 0, AV.ptr 2 0] [AV.str x.x, AV.str x.y, AV.ptr 0 0, AV.ptr 2 0] ∧ eqH [.box [AV.ptr 1 0], .box [AV.str (Pr.n (Pr.err n_6.p n_7.2)), AV.str (Pr.m (Pr.err n_6.p n_7.2)), AV.str (Pr.d (Pr.err n_6.p n_7.2)), AV.str (Pr.c (Pr.err n_6.p n_7.2)), AV.int .i64 (Pr.e (Pr.err n_6.p n_7.2))], .box [AV.fn (QOp.fn n.o) [] []]] [.box [AV.ptr 1 0], .box [AV.str x.p.n, AV.str x.p.m, AV.str x.p.d, AV.str x.p.c, AV.int .i64 x.p.e], .box [AV.fn (QOp.fn x.o) [] []]] ∧ 3 = 3 ∧ x.x.length < 4611686018427387904 ∧ x.y.length < 4611686018427387904) fun n => .all (fun (r : List UInt8 × Int) => r = if Pr.e n.p ≠ 0 then ([], Pr.e n.p) else QOp.op n.o n.x n.y) fun n_8 => .ex (fun (x : Pr × List UInt8 × List UInt8) => eqL [AV.ptr 0 0, AV.str n_7.1, AV.str n_8.1] [AV.ptr 0 0, AV.str (x.2.1), AV.str (x.2.2)] ∧ eqH [.box [AV.str (Pr.n (Pr.err n.p n_8.2)), AV.str (Pr.m (Pr.err n.p n_8.2)), AV.str (Pr.d (Pr.err n.p n_8.2)), AV.str (Pr.c (Pr.err n.p n_8.2)), AV.int .i64 (Pr.e (Pr.err n.p n_8.2))]] [.box [AV.str x.1.n, AV.str x.1.m, AV.str x.1.d, AV.str x.1.c, AV.int .i64 x.1.e]] ∧ 1 = 1 ∧ List.length (x.2.1) < 4611686018427387904 ∧ List.length (x.2.2) < 4611686018427387904) fun n_9 => .all (fun (r : List UInt8 × Int) => r = if Pr.e n_9.1 ≠ 0 then ([], Pr.e n_9.1) else j5 (n_9.2.1) (n_9.2.2)) fun n_10 => .leaf (.ret [.str n_10.1, .int .i64 n_10.2] [.box [.str n_9.1.n, .str n_9.1.m, .str n_9.1.d, .str n_9.1.c, .int .i64 n_9.1.e], .box [.ptr 0 0], .box [.fn (QOp.fn n.o) [] []], .box [.ptr 0 0], .box [.fn (QOp.fn n_6.o) [] []]])))))))))))))))) (by kernel_rfl) ?_
 simp only [Tree.holds, zd]
 refine ⟨(a, b), ⟨⟨rfl, rfl, trivial⟩, trivial, by trivial, by show a.length < _; omega, by show b.length < _; omega⟩, ⟨_, rfl⟩, ?_⟩
 intro p hp
 have hc := wW a b
 obtain ⟨l1, l2, l3, l4⟩ := kA a b
 rw [← hp] at hc l1 l2 l3 l4
 refine ⟨(p, .mul), ⟨kx_k _, kx_b p, by trivial, trivial⟩, ⟨(), trivial⟩, ?_⟩
 intro _ _
 refine ⟨(p, .sub), ⟨kx_k _, kx_b p, by trivial, trivial⟩, ⟨(), trivial⟩, ?_⟩
 intro _ _
 iterate 6 refine ⟨by decide, fun _ => ?_⟩
 refine ⟨⟨p, .mul, p.n, p.c⟩, ⟨kx_l _ _, kx_h (p) _, by trivial, by show (p.n).length < _; omega, by show (p.c).length < _; omega⟩, ⟨_, rfl⟩, ?_⟩
 intro r1 hr1
 have kr1 := qa _ _ _ _ hr1
 iterate 4 refine ⟨rfl, fun _ => ?_⟩
 refine ⟨⟨p.err r1.2, .mul, p.m, p.d⟩, ⟨kx_l _ _, kx_h (p.err r1.2) _, by trivial, by show (p.m).length < _; omega, by show (p.d).length < _; omega⟩, ⟨_, rfl⟩, ?_⟩
 intro r2 hr2
 have kr2 := qa _ _ _ _ hr2
 iterate 2 refine ⟨rfl, fun _ => ?_⟩
 refine ⟨⟨(p.err r1.2).err r2.2, .sub, r1.1, r2.1⟩, ⟨kx_l _ _, kx_h ((p.err r1.2).err r2.2) _, by trivial, by show (r1.1).length < _; omega, by show (r2.1).length < _; omega⟩, ⟨_, rfl⟩, ?_⟩
 intro r3 hr3
 have kr3 := qa _ _ _ _ hr3
 iterate 2 refine ⟨rfl, fun _ => ?_⟩
 refine ⟨⟨((p.err r1.2).err r2.2).err r3.2, .mul, p.d, p.c⟩, ⟨kx_l _ _, kx_h (((p.err r1.2).err r2.2).err r3.2) _, by trivial, by show (p.d).length < _; omega, by show (p.c).length < _; omega⟩, ⟨_, rfl⟩, ?_⟩
 intro r4 hr4
 have kr4 := qa _ _ _ _ hr4
 refine ⟨((((p.err r1.2).err r2.2).err r3.2).err r4.2, r3.1, r4.1), ⟨kx_m _ _, kx_b _, by trivial, by show (r3.1).length < _; omega, by show (r4.1).length < _; omega⟩, ⟨_, rfl⟩, ?_⟩
 intro r5 hr5
 have hfin := y7 hc (fun {s t} => UG (s := s) (t := t)) hr1 hr2 hr3 hr4 hr5
 have e : r5 = subR a b := hfin
 rw [← e] at hq
 exact RetR.scal hq rfl (by simp [resV])
theorem Qp : zb Tryd.prog 135 VP := by
 refine zg (fn := Tryd.f135) (c := Tryd.f135.body.getD .skip) rfl rfl rfl fun p hp O w0 Q hq => ?_
 obtain ⟨a, b⟩ := p
 obtain ⟨h1, h2⟩ := hp
 replace hq := hq _ rfl
 simp only at h1 h2 hq
 refine zc.run hmix QJ [] 400 (T := .ex (fun (x : List UInt8 × List UInt8) => eqL [AV.str a, AV.str b] [AV.str x.1, AV.str x.2] ∧ eqH [] [] ∧ 0 = 0 ∧ x.1.length < 4611686018427387904 ∧ x.2.length < 4611686018427387904) fun n => .all (fun (r : Pr) => r = qO n.1 n.2) fun n => .ex (fun (x : Pr × QOp) => eqL [AV.ptr 0 0, AV.fn 95 [] []] [AV.ptr 0 0, AV.fn (QOp.fn x.2) [] []] ∧ eqH [.box [AV.str n.n, AV.str n.m, AV.str n.d, AV.str n.c, AV.int .i64 n.e]] [.box [AV.str x.1.n, AV.str x.1.m, AV.str x.1.d, AV.str x.1.c, AV.int .i64 x.1.e]] ∧ 1 = 1 ∧ True) fun n => .all (fun (x : Unit) => True) fun n_1 => .side ((0 : Int) ≤ 0 ∧ (0 : Int) < 2) (.side ((0 : Int) ≤ 1 ∧ (1 : Int) < 2) (.side ((0 : Int) ≤ 0 ∧ (0 : Int) < 2) (.side ((0 : Int) ≤ 1 ∧ (1 : Int) < 2) (.ex (fun (x : KX) => eqL [AV.str n.1.n, AV.str n.1.m, AV.ptr 0 0, AV.ptr 2 0] [AV.str x.x, AV.str x.y, AV.ptr 0 0, AV.ptr 2 0] ∧ eqH [.box [AV.ptr 1 0], .box [AV.str n.1.n, AV.str n.1.m, AV.str n.1.d, AV.str n.1.c, AV.int .i64 n.1.e], .box [AV.fn (QOp.fn n.2) [] []]] [.box [AV.ptr 1 0], .box [AV.str x.p.n, AV.str x.p.m, AV.str x.p.d, AV.str x.p.c, AV.int .i64 x.p.e], .box [AV.fn (QOp.fn x.o) [] []]] ∧ 3 = 3 ∧ x.x.length < 4611686018427387904 ∧ x.y.length < 4611686018427387904) fun n_2 => .all (fun (r : List UInt8 × Int) => r = if Pr.e n_2.p ≠ 0 then ([], Pr.e n_2.p) else QOp.op n_2.o n_2.x n_2.y) fun n_3 => .side (Pr.c (Pr.err n_2.p n_3.2) = Pr.c n.1) (.side (Pr.d (Pr.err n_2.p n_3.2) = Pr.d n.1) (.ex (fun (x : KX) => eqL [AV.str n.1.d, AV.str n.1.c, AV.ptr 0 0, AV.ptr 2 0] [AV.str x.x, AV.str x.y, AV.ptr 0 0, AV.ptr 2 0] ∧ eqH [.box [AV.ptr 1 0], .box [AV.str (Pr.n (Pr.err n_2.p n_3.2)), AV.str (Pr.m (Pr.err n_2.p n_3.2)), AV.str (Pr.d (Pr.err n_2.p n_3.2)), AV.str (Pr.c (Pr.err n_2.p n_3.2)), AV.int .i64 (Pr.e (Pr.err n_2.p n_3.2))], .box [AV.fn (QOp.fn n_2.o) [] []]] [.box [AV.ptr 1 0], .box [AV.str x.p.n, AV.str x.p.m, AV.str x.p.d, AV.str x.p.c, AV.int .i64 x.p.e], .box [AV.fn (QOp.fn x.o) [] []]] ∧ 3 = 3 ∧ x.x.length < 4611686018427387904 ∧ x.y.length < 4611686018427387904) fun n => .all (fun (r : List UInt8 × Int) => r = if Pr.e n.p ≠ 0 then ([], Pr.e n.p) else QOp.op n.o n.x n.y) fun n_4 => .ex (fun (x : Pr × List UInt8 × List UInt8) => eqL [AV.ptr 0 0, AV.str n_3.1, AV.str n_4.1] [AV.ptr 0 0, AV.str (x.2.1), AV.str (x.2.2)] ∧ eqH [.box [AV.str (Pr.n (Pr.err n.p n_4.2)), AV.str (Pr.m (Pr.err n.p n_4.2)), AV.str (Pr.d (Pr.err n.p n_4.2)), AV.str (Pr.c (Pr.err n.p n_4.2)), AV.int .i64 (Pr.e (Pr.err n.p n_4.2))]] [.box [AV.str x.1.n, AV.str x.1.m, AV.str x.1.d, AV.str x.1.c, AV.int .i64 x.1.e]] ∧ 1 = 1 ∧ List.length (x.2.1) < 4611686018427387904 ∧ List.length (x.2.2) < 4611686018427387904) fun n_5 => .all (fun (r : List UInt8 × Int) => r = if Pr.e n_5.1 ≠ 0 then ([], Pr.e n_5.1) else j5 (n_5.2.1) (n_5.2.2)) fun n_6 => .leaf (.ret [.str n_6.1, .int .i64 n_6.2] [.box [.str n_5.1.n, .str n_5.1.m, .str n_5.1.d, .str n_5.1.c, .int .i64 n_5.1.e], .box [.ptr 0 0], .box [.fn (QOp.fn n.o) [] []]])))))))) (by kernel_rfl) ?_
 simp only [Tree.holds, zd]
 refine ⟨(a, b), ⟨⟨rfl, rfl, trivial⟩, trivial, by trivial, by show a.length < _; omega, by show b.length < _; omega⟩, ⟨_, rfl⟩, ?_⟩
 intro p hp
 have hc := wW a b
 obtain ⟨l1, l2, l3, l4⟩ := kA a b
 rw [← hp] at hc l1 l2 l3 l4
 refine ⟨(p, .mul), ⟨kx_k _, kx_b p, by trivial, trivial⟩, ⟨(), trivial⟩, ?_⟩
 intro _ _
 iterate 4 refine ⟨by decide, fun _ => ?_⟩
 refine ⟨⟨p, .mul, p.n, p.m⟩, ⟨kx_l _ _, kx_h (p) _, by trivial, by show (p.n).length < _; omega, by show (p.m).length < _; omega⟩, ⟨_, rfl⟩, ?_⟩
 intro r1 hr1
 have kr1 := qa _ _ _ _ hr1
 iterate 2 refine ⟨rfl, fun _ => ?_⟩
 refine ⟨⟨p.err r1.2, .mul, p.d, p.c⟩, ⟨kx_l _ _, kx_h (p.err r1.2) _, by trivial, by show (p.d).length < _; omega, by show (p.c).length < _; omega⟩, ⟨_, rfl⟩, ?_⟩
 intro r2 hr2
 have kr2 := qa _ _ _ _ hr2
 refine ⟨((p.err r1.2).err r2.2, r1.1, r2.1), ⟨kx_m _ _, kx_b _, by trivial, by show (r1.1).length < _; omega, by show (r2.1).length < _; omega⟩, ⟨_, rfl⟩, ?_⟩
 intro r3 hr3
 have hv : errR a = 0 → errR b = 0 → zq p.n p.m = 0 ∧ zq p.d p.c = 0 := by
  intro ha hb
  obtain ⟨a1, a2, _⟩ := qw ha
  obtain ⟨b1, b2, _⟩ := qw hb
  rcases hc with ⟨g1, g2⟩ | ⟨_, _, _, g1, g2, g3, g4⟩
  ·exact absurd g2 (by unfold jt; rw [if_pos ha, hb]; exact fun h => g1 h.symm)
  ·rw [g1, g2, g3, g4]; exact ⟨zm.2 ⟨a1, b1⟩, zm.2 ⟨a2, b2⟩⟩
 have hfin := Xr hc hr1 hr2 hr3 hv
 have e : r3 = mulR a b := by
  rw [hfin]
  unfold mulR
  rcases hc with ⟨g1, g2⟩ | ⟨_, _, _, g1, g2, g3, g4⟩
  ·rw [if_pos (by rw [g2]; exact g1), if_pos (by rw [g2]; exact g1)]
  ·rw [g1, g2, g3, g4]
 rw [← e] at hq
 exact RetR.scal hq rfl (by simp [resV])
theorem zbi : zb Tryd.prog 79 zce := by
 refine zg (fn := Tryd.f79) (c := Tryd.f79.body.getD .skip) rfl rfl rfl fun p hp O w0 Q hq => ?_
 obtain ⟨a, b⟩ := p
 obtain ⟨h1, h2⟩ := hp
 replace hq := hq _ rfl
 simp only at h1 h2 hq
 refine zc.run hmix QJ [] 400 (T := .ex (fun (x : List UInt8 × List UInt8) => eqL [AV.str a, AV.str b] [AV.str x.1, AV.str x.2] ∧ eqH [] [] ∧ 0 = 0 ∧ x.1.length < 4611686018427387904 ∧ x.2.length < 4611686018427387904) fun n => .all (fun (r : Pr) => r = qO n.1 n.2) fun n => .ex (fun (x : Pr × QOp) => eqL [AV.ptr 0 0, AV.fn 95 [] []] [AV.ptr 0 0, AV.fn (QOp.fn x.2) [] []] ∧ eqH [.box [AV.str n.n, AV.str n.m, AV.str n.d, AV.str n.c, AV.int .i64 n.e]] [.box [AV.str x.1.n, AV.str x.1.m, AV.str x.1.d, AV.str x.1.c, AV.int .i64 x.1.e]] ∧ 1 = 1 ∧ True) fun n => .all (fun (x : Unit) => True) fun n_1 => .side ((0 : Int) ≤ 0 ∧ (0 : Int) < 2) (.side ((0 : Int) ≤ 1 ∧ (1 : Int) < 2) (.side ((0 : Int) ≤ 1 ∧ (1 : Int) < 2) (.side ((0 : Int) ≤ 0 ∧ (0 : Int) < 2) (.ex (fun (x : KX) => eqL [AV.str n.1.n, AV.str n.1.c, AV.ptr 0 0, AV.ptr 2 0] [AV.str x.x, AV.str x.y, AV.ptr 0 0, AV.ptr 2 0] ∧ eqH [.box [AV.ptr 1 0], .box [AV.str n.1.n, AV.str n.1.m, AV.str n.1.d, AV.str n.1.c, AV.int .i64 n.1.e], .box [AV.fn (QOp.fn n.2) [] []]] [.box [AV.ptr 1 0], .box [AV.str x.p.n, AV.str x.p.m, AV.str x.p.d, AV.str x.p.c, AV.int .i64 x.p.e], .box [AV.fn (QOp.fn x.o) [] []]] ∧ 3 = 3 ∧ x.x.length < 4611686018427387904 ∧ x.y.length < 4611686018427387904) fun n_2 => .all (fun (r : List UInt8 × Int) => r = if Pr.e n_2.p ≠ 0 then ([], Pr.e n_2.p) else QOp.op n_2.o n_2.x n_2.y) fun n_3 => .side (Pr.d (Pr.err n_2.p n_3.2) = Pr.d n.1) (.side (Pr.m (Pr.err n_2.p n_3.2) = Pr.m n.1) (.ex (fun (x : KX) => eqL [AV.str n.1.m, AV.str n.1.d, AV.ptr 0 0, AV.ptr 2 0] [AV.str x.x, AV.str x.y, AV.ptr 0 0, AV.ptr 2 0] ∧ eqH [.box [AV.ptr 1 0], .box [AV.str (Pr.n (Pr.err n_2.p n_3.2)), AV.str (Pr.m (Pr.err n_2.p n_3.2)), AV.str (Pr.d (Pr.err n_2.p n_3.2)), AV.str (Pr.c (Pr.err n_2.p n_3.2)), AV.int .i64 (Pr.e (Pr.err n_2.p n_3.2))], .box [AV.fn (QOp.fn n_2.o) [] []]] [.box [AV.ptr 1 0], .box [AV.str x.p.n, AV.str x.p.m, AV.str x.p.d, AV.str x.p.c, AV.int .i64 x.p.e], .box [AV.fn (QOp.fn x.o) [] []]] ∧ 3 = 3 ∧ x.x.length < 4611686018427387904 ∧ x.y.length < 4611686018427387904) fun n => .all (fun (r : List UInt8 × Int) => r = if Pr.e n.p ≠ 0 then ([], Pr.e n.p) else QOp.op n.o n.x n.y) fun n_4 => .ite (!decide (Pr.e (Pr.err n.p n_4.2) = (0 : Int))) (.leaf (.ret [.int .i64 0, .int .i64 (Pr.e (Pr.err n.p n_4.2))] [.box [.str (Pr.n (Pr.err n.p n_4.2)), .str (Pr.m (Pr.err n.p n_4.2)), .str (Pr.d (Pr.err n.p n_4.2)), .str (Pr.c (Pr.err n.p n_4.2)), .int .i64 (Pr.e (Pr.err n.p n_4.2))], .box [.ptr 0 0], .box [.fn (QOp.fn n.o) [] []]])) (.ex (fun (x : List UInt8 × List UInt8) => eqL [AV.str n_3.1, AV.str n_4.1] [AV.str x.1, AV.str x.2] ∧ x.1.length < 4611686018427387904 ∧ x.2.length < 4611686018427387904) fun n_5 => .all (fun (r : Int × Int) => r = ZK n_5.1 n_5.2) fun n_6 => .leaf (.ret [.int .i64 n_6.1, .int .i64 n_6.2] [.box [.str (Pr.n (Pr.err n.p n_4.2)), .str (Pr.m (Pr.err n.p n_4.2)), .str (Pr.d (Pr.err n.p n_4.2)), .str (Pr.c (Pr.err n.p n_4.2)), .int .i64 (Pr.e (Pr.err n.p n_4.2))], .box [.ptr 0 0], .box [.fn (QOp.fn n.o) [] []]]))))))))) (by kernel_rfl) ?_
 simp only [Tree.holds, zd]
 refine ⟨(a, b), ⟨⟨rfl, rfl, trivial⟩, trivial, by trivial, by show a.length < _; omega, by show b.length < _; omega⟩, ⟨_, rfl⟩, ?_⟩
 intro p hp
 have hc := wW a b
 obtain ⟨l1, l2, l3, l4⟩ := kA a b
 rw [← hp] at hc l1 l2 l3 l4
 refine ⟨(p, .mul), ⟨kx_k _, kx_b p, by trivial, trivial⟩, ⟨(), trivial⟩, ?_⟩
 intro _ _
 iterate 4 refine ⟨by decide, fun _ => ?_⟩
 refine ⟨⟨p, .mul, p.n, p.c⟩, ⟨kx_l _ _, kx_h (p) _, by trivial, by show (p.n).length < _; omega, by show (p.c).length < _; omega⟩, ⟨_, rfl⟩, ?_⟩
 intro r1 hr1
 have kr1 := qa _ _ _ _ hr1
 iterate 2 refine ⟨rfl, fun _ => ?_⟩
 refine ⟨⟨p.err r1.2, .mul, p.m, p.d⟩, ⟨kx_l _ _, kx_h (p.err r1.2) _, by trivial, by show (p.m).length < _; omega, by show (p.d).length < _; omega⟩, ⟨_, rfl⟩, ?_⟩
 intro r2 hr2
 have kr2 := qa _ _ _ _ hr2
 have hfin := KA hc hr1 hr2
 refine ⟨fun h => ?_, fun h => ⟨(r1.1, r2.1), ⟨⟨rfl, rfl, trivial⟩, by show r1.1.length < _; omega, by show r2.1.length < _; omega⟩, ⟨_, rfl⟩, ?_⟩⟩
 ·have h : r2.2 ≠ 0 := by
   intro h0
   have h' : (!decide (r2.2 = 0)) = true := h
   rw [h0] at h'; cases h'
  rw [if_pos h] at hfin
  rw [← hfin] at hq
  exact RetR.scal hq rfl (by simp [resV, Pr.err])
 ·have h : r2.2 = 0 := by
   have h' : (!decide (r2.2 = 0)) = false := h
   cases hd : decide (r2.2 = 0) with
   | true => exact of_decide_eq_true hd
   | false => rw [hd] at h'; cases h'
  rw [if_neg (by rw [h]; simp)] at hfin
  rintro _ rfl
  rw [← hfin] at hq
  exact RetR.scal hq rfl (by simp [resV])
end Go.Proofs.Tryd
end

/- Orders of what is known. -/
section
namespace Go.Nov
open Go.Sx
def cmpS (s t : List UInt8) : Int := if Op.bytesLess s t then -1 else if s = t then 0 else 1
def cmpI (x y : Int) : Int := if x < y then -1 else if y < x then 1 else 0
def orI : List Int → Int
 | [] => 0
 | x :: l => if x = 0 then orI l else x
structure Fx where
 name : List UInt8
 date : Int
 value : List UInt8
structure Ch where
 zj : List UInt8
 name : List UInt8
 date : Int
 first : Bool
abbrev Fx.nil : Fx := ⟨[], 0, []⟩
abbrev Ch.nil : Ch := ⟨[], [], 0, false⟩
def Fx.cell (f : Fx) : Nat → AV
 | 0 => .str f.name
 | 1 => .int .i64 f.date
 | 2 => .str f.value
 | _ => .undef
def Ch.cell (c : Ch) : Nat → AV
 | 0 => .str c.zj
 | 1 => .str c.name
 | 2 => .int .i64 c.date
 | 3 => .bool c.first
 | _ => .undef
def fxG (l : List Fx) : Nat → Nat → AV := fun j => (l.getD j Fx.nil).cell
def chG (l : List Ch) : Nat → Nat → AV := fun j => (l.getD j Ch.nil).cell
def Fx.av (f : Fx) : AV := .agg [.str f.name, .int .i64 f.date, .str f.value]
def Ch.av (c : Ch) : AV := .agg [.str c.zj, .str c.name, .int .i64 c.date, .bool c.first]
def fxS (l : List Fx) : AV := .sl l.length 3 (fxG l)
def chS (l : List Ch) : AV := .sl l.length 4 (chG l)
def envA (f : List Fx) (c : List Ch) : AV := .agg [fxS f, chS c]
def cmpF (a b : Fx) : Int := if cmpS a.name b.name = 0 then cmpI a.date b.date else cmpS a.name b.name
def cmpC (a b : Ch) : Int := if cmpS a.zj b.zj = 0 then (if cmpS a.name b.name = 0 then cmpI a.date b.date else cmpS a.name b.name) else cmpS a.zj b.zj
end Go.Nov
namespace Go.Nov
def okF (f : Fx) : Bool := qe f.name && dayB f.date && decide (errR f.value = 0)
def okC (c : Ch) : Bool := qe c.zj && qe c.name && dayB c.date
def idxB {α : Type} (p : α → Bool) (l : List α) : Int := if l.findIdx p < l.length then (l.findIdx p : Int) else -1
theorem Jo {α : Type} (p : α → Bool) (l : List α) : decide (0 ≤ idxB p l) = l.any p := by
 unfold idxB
 by_cases h : l.findIdx p < l.length
 ·rw [if_pos h]
  have : l.any p = true := by
   rw [List.any_eq_true]
   exact ⟨_, List.getElem_mem h, List.findIdx_getElem (w := h)⟩
  rw [this]; simp
 ·rw [if_neg h]
  have : l.any p = false := by
   rw [List.any_eq_false]
   intro x hx hpx
   exact h (List.findIdx_lt_length_of_exists ⟨x, hx, hpx⟩)
  rw [this]; rfl
theorem yN {α : Type} {p : α → Bool} {l : List α} {z : α} {i : Nat} (hi : i < l.length) (h : p (l.getD i z) = true) (hb : ∀ j, j < i → p (l.getD j z) = false) : idxB p l = i := by
 have hlt : l.findIdx p < l.length := List.findIdx_lt_length_of_exists ⟨l[i], List.getElem_mem hi, by simpa [List.getD, hi] using h⟩
 have e : l.findIdx p = i := by
  rcases Nat.lt_trichotomy (l.findIdx p) i with h1 | h1 | h1
  ·have h2 := List.findIdx_getElem (w := hlt)
   have h3 := hb _ h1
   simp only [List.getD, List.getElem?_eq_getElem hlt, Option.getD_some] at h3
   rw [h2] at h3; cases h3
  ·exact h1
  ·have h2 := List.not_of_lt_findIdx h1
   simp only [List.getD, List.getElem?_eq_getElem hi, Option.getD_some] at h
   exact absurd h (by simpa using h2)
 unfold idxB
 rw [if_pos hlt, e]
theorem ku {α : Type} {p : α → Bool} {l : List α} {z : α} (hb : ∀ j, j < l.length → p (l.getD j z) = false) : idxB p l = -1 := by
 unfold idxB
 rw [if_neg]
 intro h
 have h2 := List.findIdx_getElem (w := h)
 have h3 := hb _ h
 simp only [List.getD, List.getElem?_eq_getElem h, Option.getD_some] at h3
 rw [h2] at h3; cases h3
end Go.Nov
namespace Go.Nov
def ordB {α : Type} (c : α → α → Int) (z : α) (l : List α) : Bool := (List.range (l.length - 1)).all fun i => decide (c (l.getD i z) (l.getD (i + 1) z) < 0)
theorem uI {α : Type} {c : α → α → Int} {z : α} {l : List α} (h : ∀ j, j + 1 < l.length → c (l.getD j z) (l.getD (j + 1) z) < 0) : ordB c z l = true := by
 simp only [ordB, List.all_eq_true, List.mem_range, decide_eq_true_eq]
 exact fun j hj => h j (by omega)
theorem Jg {α : Type} {c : α → α → Int} {z : α} {l : List α} {j : Nat} (hj : j + 1 < l.length) (h : ¬ c (l.getD j z) (l.getD (j + 1) z) < 0) : ordB c z l = false := by
 simp only [ordB, List.all_eq_false, List.mem_range]
 exact ⟨j, by omega, by simpa using h⟩
def errE (f : List Fx) (c : List Ch) : Int := if 1000 < f.length ∨ 1000 < c.length then 4 else if (f.all okF && c.all okC && ordB cmpF Fx.nil f && ordB cmpC Ch.nil c) = true then 0 else 8
end Go.Nov
namespace Go.Nov
theorem zbh {x y : Int} : cmpI x y < 0 ↔ x < y := by
 unfold cmpI
 split
 ·rename_i h; exact ⟨fun _ => h, fun _ => by decide⟩
 ·rename_i h
  split
  ·exact ⟨fun h2 => by omega, fun h2 => absurd h2 h⟩
  ·exact ⟨fun h2 => by omega, fun h2 => absurd h2 h⟩
end Go.Nov
namespace Go.Nov
theorem Fx.eq_iff {a b : Fx} : (decide (a.name = b.name) && (decide (a.date = b.date) && (decide (a.value = b.value) && true))) = true ↔ a = b := by
 cases a; cases b
 simp [Fx.mk.injEq]
theorem Ch.eq_iff {a b : Ch} : (decide (a.zj = b.zj) && (decide (a.name = b.name) && (decide (a.date = b.date) && ((a.first == b.first) && true)))) = true ↔ a = b := by
 cases a; cases b
 simp [Ch.mk.injEq]
theorem J7 {α : Type} {l m : List α} {z : α} (hl : l.length = m.length) (h : ∀ j, j < l.length → l.getD j z = m.getD j z) : l = m := by
 apply List.ext_getElem hl
 intro j h1 h2
 have := h j h1
 simpa [List.getD, h1, h2] using this
end Go.Nov
end

/- The order of what is known. -/
section
set_option maxRecDepth 100000
open Go Go.Sx Go.Proofs Go.Nov
namespace Go.Proofs.Tryd
attribute [local simp] eqKV eqA eqA0 eqH eqB eqL eqL0
noncomputable def K62 : List Go.Sx.Item := [.code (Tryd.f62.body.getD .skip)]
def nanS : Ctr := ctrP true (fun s : List UInt8 => [.str s]) (fun _ => True) (fun s r => r = false) (fun _ (r : Bool) => (.bool r, []))
def nanI : Ctr := ctrP true (fun x : Int => [.int .i64 x]) (fun _ => True) (fun s r => r = false) (fun _ (r : Bool) => (.bool r, []))
theorem za3 : zb Tryd.prog 77 nanS := by
 refine zg (fn := Tryd.f77) (c := Tryd.f77.body.getD .skip) rfl rfl rfl fun s hs O w0 Q hq => ?_
 replace hq := hq _ rfl
 refine zc.run hmix z5 [] 400 (T := .leaf (.ret [.bool !decide (s = s)] [])) (by kernel_rfl) ?_
 simp only [Tree.holds, zd]
 exact RetR.scal hq rfl (by simp [resV])
theorem zaz : zb Tryd.prog 78 nanI := by
 refine zg (fn := Tryd.f78) (c := Tryd.f78.body.getD .skip) rfl rfl rfl fun s hs O w0 Q hq => ?_
 replace hq := hq _ rfl
 refine zc.run hmix z5 [] 400 (T := .leaf (.ret [.bool !decide (s = s)] [])) (by kernel_rfl) ?_
 simp only [Tree.holds, zd]
 exact RetR.scal hq rfl (by simp [resV])
def zbz : Ctr := ctrP true (fun p : List UInt8 × List UInt8 => [.str p.1, .str p.2]) (fun _ => True) (fun p r => r = cmpS p.1 p.2) (fun _ (r : Int) => (.int .i64 r, []))
def zcb : Ctr := ctrP true (fun p : Int × Int => [.int .i64 p.1, .int .i64 p.2]) (fun _ => True) (fun p r => r = cmpI p.1 p.2) (fun _ (r : Int) => (.int .i64 r, []))
noncomputable def GN2 : Nat → Option Ctr := fun f => if f = 77 then some (nanS) else if f = 78 then some (nanI) else none
theorem X5 : ∀ g c, GN2 g = some c → zb Tryd.prog g c := okIf za3 (okIf zaz (zp))
theorem za7 : zb Tryd.prog 63 zbz := by
 refine zg (fn := Tryd.f63) (c := Tryd.f63.body.getD .skip) rfl rfl rfl fun p hs O w0 Q hq => ?_
 obtain ⟨s, t⟩ := p
 replace hq := hq _ rfl
 simp only at hq
 refine zc.run hmix X5 [] 400 (T := .ex (fun (x : List UInt8) => eqL [AV.str s] [AV.str x] ∧ True) fun n => .all (fun (r : Bool) => r = false) fun n => .ex (fun (x : List UInt8) => eqL [AV.str t] [AV.str x] ∧ True) fun n_1 => .all (fun (r : Bool) => r = false) fun n_2 => .ite n (.ite n_2 (.leaf (.ret [.int .i64 0] [])) (.leaf (.ret [.int .i64 (-1 : Int)] []))) (.ite n_2 (.leaf (.ret [.int .i64 1] [])) (.ite (Op.bytesLess s t) (.leaf (.ret [.int .i64 (-1 : Int)] [])) (.ite (!(Op.bytesLess s t || decide (s = t))) (.leaf (.ret [.int .i64 1] [])) (.leaf (.ret [.int .i64 0] [])))))) (by kernel_rfl) ?_
 simp only [Tree.holds, zd]
 refine ⟨s, ⟨by simp, trivial⟩, ⟨_, rfl⟩, ?_⟩
 rintro _ rfl
 refine ⟨t, ⟨by simp, trivial⟩, ⟨_, rfl⟩, ?_⟩
 rintro _ rfl
 refine ⟨fun h => (by cases h), fun _ => ⟨fun h => (by cases h), fun _ => ⟨fun h => ?_, fun h => ⟨fun h2 => ?_, fun h2 => ?_⟩⟩⟩⟩
 ·have : cmpS s t = -1 := by simp [cmpS, h]
  rw [this] at hq; exact RetR.scal hq rfl (by simp [resV])
 ·have h2 : s ≠ t := by simpa [h] using h2
  have : cmpS s t = 1 := by simp [cmpS, h, h2]
  rw [this] at hq; exact RetR.scal hq rfl (by simp [resV])
 ·have h2 : s = t := by simpa [h] using h2
  subst h2
  have : cmpS s s = 0 := by simp [cmpS, h]
  rw [this] at hq; exact RetR.scal hq rfl (by simp [resV])
theorem za2 : zb Tryd.prog 64 zcb := by
 refine zg (fn := Tryd.f64) (c := Tryd.f64.body.getD .skip) rfl rfl rfl fun p hs O w0 Q hq => ?_
 obtain ⟨s, t⟩ := p
 replace hq := hq _ rfl
 simp only at hq
 refine zc.run hmix X5 [] 400 (T := .ex (fun (x : Int) => eqL [AV.int .i64 s] [AV.int .i64 x] ∧ True) fun n => .all (fun (r : Bool) => r = false) fun n => .ex (fun (x : Int) => eqL [AV.int .i64 t] [AV.int .i64 x] ∧ True) fun n_1 => .all (fun (r : Bool) => r = false) fun n_2 => .ite n (.ite n_2 (.leaf (.ret [.int .i64 0] [])) (.leaf (.ret [.int .i64 (-1 : Int)] []))) (.ite n_2 (.leaf (.ret [.int .i64 1] [])) (.ite (decide (s < t)) (.leaf (.ret [.int .i64 (-1 : Int)] [])) (.ite (decide (t < s)) (.leaf (.ret [.int .i64 1] [])) (.leaf (.ret [.int .i64 0] [])))))) (by kernel_rfl) ?_
 simp only [Tree.holds, zd]
 refine ⟨s, ⟨by simp, trivial⟩, ⟨_, rfl⟩, ?_⟩
 rintro _ rfl
 refine ⟨t, ⟨by simp, trivial⟩, ⟨_, rfl⟩, ?_⟩
 rintro _ rfl
 refine ⟨fun h => (by cases h), fun _ => ⟨fun h => (by cases h), fun _ => ⟨fun h => ?_, fun h => ⟨fun h2 => ?_, fun h2 => ?_⟩⟩⟩⟩
 ·have h := of_decide_eq_true h
  have : cmpI s t = -1 := by simp [cmpI, h]
  rw [this] at hq; exact RetR.scal hq rfl (by simp [resV])
 ·have h := of_decide_eq_false h
  have h2 := of_decide_eq_true h2
  have : cmpI s t = 1 := by simp [cmpI, h, h2]
  rw [this] at hq; exact RetR.scal hq rfl (by simp [resV])
 ·have h := of_decide_eq_false h
  have h2 := of_decide_eq_false h2
  have : cmpI s t = 0 := by simp [cmpI, h, h2]
  rw [this] at hq; exact RetR.scal hq rfl (by simp [resV])
def orC : Ctr := ctrP true (fun l : List Int => [.sl l.length 1 (fun j _ => .int .i64 (l.getD j 0))]) (fun l => l.length < 2 ^ 40) (fun l r => r = orI l) (fun _ (r : Int) => (.int .i64 r, []))
def SOr (l : List Int) (i : Nat) : KV := [(3, .int .i64 0), (6, .sl l.length 1 (fun j _ => .int .i64 (l.getD j 0))), (7, .int .i64 (l.length : Int)), (8, .int .i64 (i : Int))]
theorem zdy : zb Tryd.prog 62 orC := by
 refine zg (fn := Tryd.f62) (c := Tryd.f62.body.getD .skip) rfl rfl rfl fun l hl O w0 Q hq => ?_
 replace hq := hq _ rfl
 refine zc.run hmix z5 [3, 6, 7, 8] 400 (T := .leaf (.loop (Prod.fst (lps K62 0)) (Prod.snd (lps K62 0)) [(3, .int .i64 0), (6, .sl l.length 1 fun (j x : Nat) => .int .i64 (List.getD l j (0 : Int))), (7, .int .i64 l.length), (8, .int .i64 0)] [])) (by kernel_rfl) ?_
 simp only [Tree.holds, zd]
 refine zc.loop (ι := {i : Nat // i ≤ l.length ∧ orI (l.drop i) = orI l}) (fun i => SOr l i.1) (fun _ => []) (fun i => l.length - i.1) ⟨0, Nat.zero_le _, rfl⟩ 0 ?_ ?_ (by kernel_rfl)
 ·exact ⟨by simp [SOr, za], by simp, by kernel_rfl, Nat.zero_le _⟩
 ·rintro ⟨i, hil, hio⟩
  refine zc.run hmix z5 [3, 6, 7, 8] 400 (T := .ite (decide ((↑i : Int) < l.length)) (.side ((0 : Int) ≤ i ∧ (↑i : Int) < l.length) (.ite (!decide (List.getD l (Int.toNat (↑i : Int)) (0 : Int) = 0)) (.leaf (.ret [.int .i64 (List.getD l (Int.toNat (↑i : Int)) (0 : Int))] [])) (.side (inR .i64 ((↑i : Int) + (1 : Int))) (.leaf (.back 0 [(3, .int .i64 0), (6, .sl l.length 1 fun (j x : Nat) => .int .i64 (List.getD l j (0 : Int))), (7, .int .i64 l.length), (8, .int .i64 ((↑i : Int) + (1 : Int)))] []))))) (.leaf (.ret [.int .i64 0] []))) (by kernel_rfl) ?_
  simp only [Tree.holds, zd, inR, lo, hi, Int.toNat_natCast]
  refine ⟨fun hlt => ?_, fun hge => ?_⟩
  ·have hlt : i < l.length := by have := of_decide_eq_true hlt; omega
   have hd : l.drop i = l.getD i 0 :: l.drop (i + 1) := by
    rw [List.drop_eq_getElem_cons hlt]; simp [List.getD, hlt]
   rw [hd] at hio
   refine ⟨by omega, fun _ => ⟨fun h => ?_, fun h => ⟨by omega, fun _ => ?_⟩⟩⟩
   ·have h : l.getD i 0 ≠ 0 := by simpa using h
    have : orI l = l.getD i 0 := by rw [← hio]; simp only [orI]; rw [if_neg h]
    rw [this] at hq; exact RetR.scal hq rfl (by simp [resV])
   ·have h : l.getD i 0 = 0 := by simpa using h
    rw [if_pos trivial]
    refine ⟨⟨i + 1, hlt, ?_⟩, by show l.length - (i + 1) < l.length - i; omega, by simp [SOr, za], by simp, by kernel_rfl, Nat.zero_le _⟩
    rw [← hio]; simp only [orI]; rw [if_pos h]
  ·have hge : i = l.length := by have := of_decide_eq_false hge; omega
   subst hge
   rw [List.drop_length] at hio
   rw [← hio] at hq; exact RetR.scal hq rfl (by simp [resV, orI])
def xy : Ctr := ctrP true (fun p : Fx × Fx => [p.1.av, p.2.av]) (fun _ => True) (fun p r => r = cmpF p.1 p.2) (fun _ (r : Int) => (.int .i64 r, []))
def xJ : Ctr := ctrP true (fun p : Ch × Ch => [p.1.av, p.2.av]) (fun _ => True) (fun p r => r = cmpC p.1 p.2) (fun _ (r : Int) => (.int .i64 r, []))
noncomputable def GN3 : Nat → Option Ctr := fun f => if f = 63 then some (zbz) else if f = 64 then some (zcb) else if f = 62 then some (orC) else none
theorem YB : ∀ g c, GN3 g = some c → zb Tryd.prog g c := okIf za7 (okIf za2 (okIf zdy (zp)))
theorem Xy (x y : Int) : eqG 2 1 (zf (zl 1 [.int .i64 x, .int .i64 y]) 0) (fun j _ => .int .i64 ([x, y].getD j 0)) := by
 intro j o hj ho
 have ho : o = 0 := by omega
 subst ho
 rcases j with _ | _ | j
 ·rfl
 ·rfl
 ·omega
theorem Xs (x y z : Int) : eqG 3 1 (zf (zl 1 [.int .i64 x, .int .i64 y, .int .i64 z]) 0) (fun j _ => .int .i64 ([x, y, z].getD j 0)) := by
 intro j o hj ho
 have ho : o = 0 := by omega
 subst ho
 rcases j with _ | _ | _ | j
 ·rfl
 ·rfl
 ·rfl
 ·omega
theorem kN : zb Tryd.prog 38 xy := by
 refine zg (fn := Tryd.f38) (c := Tryd.f38.body.getD .skip) rfl rfl rfl fun p hs O w0 Q hq => ?_
 obtain ⟨⟨a, d, v⟩, ⟨b, e, u⟩⟩ := p
 replace hq := hq _ rfl
 simp only at hq
 refine zc.run hmix YB [] 400 (T := .ex (fun (x : List UInt8 × List UInt8) => eqL [AV.str a, AV.str b] [AV.str x.1, AV.str x.2] ∧ True) fun n => .all (fun (r : Int) => r = cmpS n.1 n.2) fun n => .ex (fun (x : Int × Int) => eqL [AV.int .i64 d, AV.int .i64 e] [AV.int .i64 x.1, AV.int .i64 x.2] ∧ True) fun n_1 => .all (fun (r : Int) => r = cmpI n_1.1 n_1.2) fun n_2 => .ex (fun (x : List Int) => eqL [AV.sl 2 1 (zf (zl 1 [AV.int .i64 n, AV.int .i64 n_2]) 0)] [AV.sl x.length 1 fun (j x_1 : Nat) => AV.int .i64 (List.getD x j (0 : Int))] ∧ x.length < 1099511627776) fun n_3 => .all (fun (r : Int) => r = orI n_3) fun n_4 => .leaf (.ret [.int .i64 n_4] [.box [.str a, .int .i64 d, .str v], .box [.str b, .int .i64 e, .str u], .arr 2 1 (zl 1 [.int .i64 n, .int .i64 n_2])])) (by kernel_rfl) ?_
 simp only [Tree.holds, zd]
 refine ⟨(a, b), ⟨by simp, trivial⟩, ⟨_, rfl⟩, ?_⟩
 rintro _ rfl
 refine ⟨(d, e), ⟨by simp, trivial⟩, ⟨_, rfl⟩, ?_⟩
 rintro _ rfl
 refine ⟨[cmpS a b, cmpI d e], ⟨⟨⟨rfl, rfl, Xy _ _⟩, trivial⟩, by simp⟩, ⟨_, rfl⟩, ?_⟩
 rintro _ rfl
 have : orI [cmpS a b, cmpI d e] = cmpF ⟨a, d, v⟩ ⟨b, e, u⟩ := by
  simp only [orI, cmpF]
  by_cases h : cmpS a b = 0
  ·simp only [h, if_true]; split <;> simp_all
  ·simp only [if_neg h]
 rw [this]
 exact RetR.scal hq rfl (by simp [resV])
theorem xd : zb Tryd.prog 48 xJ := by
 refine zg (fn := Tryd.f48) (c := Tryd.f48.body.getD .skip) rfl rfl rfl fun p hs O w0 Q hq => ?_
 obtain ⟨⟨a, d, v, f⟩, ⟨b, e, u, g⟩⟩ := p
 replace hq := hq _ rfl
 simp only at hq
 refine zc.run hmix YB [] 400 (T := .ex (fun (x : List UInt8 × List UInt8) => eqL [AV.str a, AV.str b] [AV.str x.1, AV.str x.2] ∧ True) fun n => .all (fun (r : Int) => r = cmpS n.1 n.2) fun n => .ex (fun (x : List UInt8 × List UInt8) => eqL [AV.str d, AV.str e] [AV.str x.1, AV.str x.2] ∧ True) fun n_1 => .all (fun (r : Int) => r = cmpS n_1.1 n_1.2) fun n_2 => .ex (fun (x : Int × Int) => eqL [AV.int .i64 v, AV.int .i64 u] [AV.int .i64 x.1, AV.int .i64 x.2] ∧ True) fun n_3 => .all (fun (r : Int) => r = cmpI n_3.1 n_3.2) fun n_4 => .ex (fun (x : List Int) => eqL [AV.sl 3 1 (zf (zl 1 [AV.int .i64 n, AV.int .i64 n_2, AV.int .i64 n_4]) 0)] [AV.sl x.length 1 fun (j x_1 : Nat) => AV.int .i64 (List.getD x j (0 : Int))] ∧ x.length < 1099511627776) fun n_5 => .all (fun (r : Int) => r = orI n_5) fun n_6 => .leaf (.ret [.int .i64 n_6] [.box [.str a, .str d, .int .i64 v, .bool f], .box [.str b, .str e, .int .i64 u, .bool g], .arr 3 1 (zl 1 [.int .i64 n, .int .i64 n_2, .int .i64 n_4])])) (by kernel_rfl) ?_
 simp only [Tree.holds, zd]
 refine ⟨(a, b), ⟨by simp, trivial⟩, ⟨_, rfl⟩, ?_⟩
 rintro _ rfl
 refine ⟨(d, e), ⟨by simp, trivial⟩, ⟨_, rfl⟩, ?_⟩
 rintro _ rfl
 refine ⟨(v, u), ⟨by simp, trivial⟩, ⟨_, rfl⟩, ?_⟩
 rintro _ rfl
 refine ⟨[cmpS a b, cmpS d e, cmpI v u], ⟨⟨⟨rfl, rfl, Xs _ _ _⟩, trivial⟩, by simp⟩, ⟨_, rfl⟩, ?_⟩
 rintro _ rfl
 have : orI [cmpS a b, cmpS d e, cmpI v u] = cmpC ⟨a, d, v, f⟩ ⟨b, e, u, g⟩ := by
  simp only [orI, cmpC]
  by_cases h : cmpS a b = 0
  ·simp only [h, if_true]
   by_cases h2 : cmpS d e = 0
   ·simp only [h2, if_true]; split <;> simp_all
   ·simp only [if_neg h2]
  ·simp only [if_neg h]
 rw [this]
 exact RetR.scal hq rfl (by simp [resV])
end Go.Proofs.Tryd
end

/- What is known: the checks. -/
section
set_option maxRecDepth 100000
open Go Go.Sx Go.Proofs Go.Nov
namespace Go.Proofs.Tryd
attribute [local simp] eqKV eqA eqA0 eqH eqB eqL eqL0
noncomputable def K66 : List Go.Sx.Item := [.code (Tryd.f66.body.getD .skip)]
noncomputable def K68 : List Go.Sx.Item := [.code (Tryd.f68.body.getD .skip)]
noncomputable def K46 : List Go.Sx.Item := [.code (Tryd.f46.body.getD .skip)]
noncomputable def K47 : List Go.Sx.Item := [.code (Tryd.f47.body.getD .skip)]
def qE (f : Fx) : Prop := f.name.length < 2 ^ 40 ∧ f.value.length < 2 ^ 40
def jB (c : Ch) : Prop := c.zj.length < 2 ^ 40 ∧ c.name.length < 2 ^ 40
def zc1 : Ctr := ctrP true (fun f : Fx => [f.av]) qE (fun f r => r = !okF f) (fun _ (r : Bool) => (.bool r, []))
def zbw : Ctr := ctrP true (fun c : Ch => [c.av]) jB (fun c r => r = !okC c) (fun _ (r : Bool) => (.bool r, []))
noncomputable def GE1 : Nat → Option Ctr := fun f => if f = 25 then some (Wj) else if f = 35 then some (xK) else if f = 36 then some (x4) else none
theorem XH : ∀ g c, GE1 g = some c → zb Tryd.prog g c := okIf QF (okIf kB (okIf k6 (zp)))
theorem US : zb Tryd.prog 42 zc1 := by
 refine zg (fn := Tryd.f42) (c := Tryd.f42.body.getD .skip) rfl rfl rfl fun f hs O w0 Q hq => ?_
 obtain ⟨a, d, v⟩ := f
 obtain ⟨h1, h2⟩ := hs
 replace hq := hq _ rfl
 simp only [okF] at hq h1 h2
 refine zc.run hmix XH [] 400 (T := .ex (fun (x : List UInt8) => eqL [AV.str a] [AV.str x] ∧ x.length < 4611686018427387904) fun n => .all (fun (r : Bool) => r = qe n) fun n => .ex (fun (x : Int) => (!n) = false → eqL [AV.int .i64 d] [AV.int .i64 x] ∧ True) fun n_1 => .all (fun (x : Bool) => (!n) = false → x = dayB n_1) fun n_2 => .ex (fun (x : List UInt8) => (bif !n then true else !n_2) = false → eqL [AV.str v] [AV.str x] ∧ x.length < 4611686018427387904) fun n_3 => .all (fun (x : Int) => (bif !n then true else !n_2) = false → x = errR n_3) fun n_4 => .leaf (.ret [.bool (bif bif !n then true else !n_2 then true else !decide (n_4 = 0))] [.box [.str a, .int .i64 d, .str v]])) (by kernel_rfl) ?_
 simp only [Tree.holds, zd]
 refine ⟨a, ⟨by simp, by omega⟩, ⟨_, rfl⟩, ?_⟩
 rintro _ rfl
 refine ⟨d, fun _ => ⟨by simp, trivial⟩, ⟨_, fun _ => rfl⟩, ?_⟩
 intro x hx
 refine ⟨v, fun _ => ⟨by simp, by omega⟩, ⟨_, fun _ => rfl⟩, ?_⟩
 intro y hy
 refine RetR.scal hq rfl ?_
 simp only [resV]
 cases hn : qe a with
 | false => rfl
 | true =>
  rw [hx (by rw [hn]; rfl)] at hy ⊢
  cases hd : dayB d with
  | false => rfl
  | true => rw [hy (by rw [hn, hd]; rfl)]; rfl
theorem zbe : zb Tryd.prog 43 zbw := by
 refine zg (fn := Tryd.f43) (c := Tryd.f43.body.getD .skip) rfl rfl rfl fun f hs O w0 Q hq => ?_
 obtain ⟨a, v, d, f⟩ := f
 obtain ⟨h1, h2⟩ := hs
 replace hq := hq _ rfl
 simp only [okC] at hq h1 h2
 refine zc.run hmix XH [] 400 (T := .ex (fun (x : List UInt8) => eqL [AV.str a] [AV.str x] ∧ x.length < 4611686018427387904) fun n => .all (fun (r : Bool) => r = qe n) fun n => .ex (fun (x : List UInt8) => (!n) = false → eqL [AV.str v] [AV.str x] ∧ x.length < 4611686018427387904) fun n_1 => .all (fun (x : Bool) => (!n) = false → x = qe n_1) fun n_2 => .ex (fun (x : Int) => (bif !n then true else !n_2) = false → eqL [AV.int .i64 d] [AV.int .i64 x] ∧ True) fun n_3 => .all (fun (x : Bool) => (bif !n then true else !n_2) = false → x = dayB n_3) fun n_4 => .leaf (.ret [.bool (bif bif !n then true else !n_2 then true else !n_4)] [.box [.str a, .str v, .int .i64 d, .bool f]])) (by kernel_rfl) ?_
 simp only [Tree.holds, zd]
 refine ⟨a, ⟨by simp, by omega⟩, ⟨_, rfl⟩, ?_⟩
 rintro _ rfl
 refine ⟨v, fun _ => ⟨by simp, by omega⟩, ⟨_, fun _ => rfl⟩, ?_⟩
 intro x hx
 refine ⟨d, fun _ => ⟨by simp, trivial⟩, ⟨_, fun _ => rfl⟩, ?_⟩
 intro y hy
 refine RetR.scal hq rfl ?_
 simp only [resV]
 cases hn : qe a with
 | false => rfl
 | true =>
  rw [hx (by rw [hn]; rfl)] at hy ⊢
  cases hd : qe v with
  | false => rfl
  | true => rw [hy (by rw [hn, hd]; rfl)]; rfl
def zc3 : Ctr := ctrP true (fun l : List Fx => [fxS l, .fn 42 [] []]) (fun l => l.length < 2 ^ 40 ∧ ∀ j, j < l.length → qE (l.getD j Fx.nil)) (fun l r => r = idxB (fun x => !okF x) l) (fun _ (r : Int) => (.int .i64 r, []))
def SIxF (l : List Fx) (i : Nat) : KV := [(0, fxS l), (1, .fn 42 [] []), (7, .int .i64 (l.length : Int)), (8, .int .i64 (i : Int))]
noncomputable def GE2F : Nat → Option Ctr := fun f => if f = 42 then some (zc1) else none
theorem V5 : ∀ g c, GE2F g = some c → zb Tryd.prog g c := okIf US (zp)
theorem UP : zb Tryd.prog 66 zc3 := by
 refine zg (fn := Tryd.f66) (c := Tryd.f66.body.getD .skip) rfl rfl rfl fun l hl O w0 Q hq => ?_
 obtain ⟨hl, hsm⟩ := hl
 replace hq := hq _ rfl
 refine zc.run hmix V5 [0, 1, 7, 8] 400 (T := .leaf (.loop (Prod.fst (lps K66 0)) (Prod.snd (lps K66 0)) [(0, .sl l.length 3 (fxG l)), (1, .fn 42 [] []), (7, .int .i64 l.length), (8, .int .i64 0)] [])) (by kernel_rfl) ?_
 simp only [Tree.holds, zd]
 refine zc.loop (ι := {i : Nat // i ≤ l.length ∧ ∀ j, j < i → (!okF (l.getD j Fx.nil)) = false}) (fun i => SIxF l i.1) (fun _ => []) (fun i => l.length - i.1) ⟨0, Nat.zero_le _, fun j hj => by omega⟩ 0 ?_ ?_ (by kernel_rfl)
 ·exact ⟨by simp [SIxF, fxS, za], by simp, by kernel_rfl, Nat.zero_le _⟩
 ·rintro ⟨i, hil, hib⟩
  refine zc.run hmix V5 [0, 1, 7, 8] 400 (T := .ite (decide ((↑i : Int) < l.length)) (.side ((0 : Int) ≤ i ∧ (↑i : Int) < l.length) (.ex (fun (x : Fx) => eqL [AV.agg [AV.str (Fx.name (List.getD l (Int.toNat (↑i : Int)) Fx.nil)), AV.int .i64 (Fx.date (List.getD l (Int.toNat (↑i : Int)) Fx.nil)), AV.str (Fx.value (List.getD l (Int.toNat (↑i : Int)) Fx.nil))]] [AV.agg [AV.str x.name, AV.int .i64 x.date, AV.str x.value]] ∧ qE x) fun n => .all (fun (r : Bool) => r = !okF n) fun n => .ite n (.leaf (.ret [.int .i64 i] [])) (.side (inR .i64 ((↑i : Int) + (1 : Int))) (.leaf (.back 0 [(0, .sl l.length 3 (fxG l)), (1, .fn 42 [] []), (7, .int .i64 l.length), (8, .int .i64 ((↑i : Int) + (1 : Int)))] []))))) (.leaf (.ret [.int .i64 (-1 : Int)] []))) (by kernel_rfl) ?_
  simp only [Tree.holds, zd, inR, lo, hi, Int.toNat_natCast]
  refine ⟨fun hlt => ?_, fun hge => ?_⟩
  ·have hlt : i < l.length := by have := of_decide_eq_true hlt; omega
   refine ⟨by omega, fun _ => ⟨l.getD i Fx.nil, ⟨by simp, hsm i hlt⟩, ⟨_, rfl⟩, ?_⟩⟩
   rintro _ rfl
   refine ⟨fun h => ?_, fun h => ⟨by omega, fun _ => ?_⟩⟩
   ·rw [yN hlt h hib] at hq
    exact RetR.scal hq rfl (by simp [resV])
   ·rw [if_pos trivial]
    refine ⟨⟨i + 1, hlt, fun j hj => ?_⟩, by show l.length - (i + 1) < l.length - i; omega, by simp [SIxF, fxS, za], by simp, by kernel_rfl, Nat.zero_le _⟩
    rcases Nat.lt_or_ge j i with h1 | h1
    ·exact hib j h1
    ·have : j = i := by omega
     rw [this]; exact h
  ·have hge : i = l.length := by have := of_decide_eq_false hge; omega
   subst hge
   rw [ku hib] at hq
   exact RetR.scal hq rfl (by simp [resV])
def zbq : Ctr := ctrP true (fun l : List Fx => [fxS l, .fn 42 [] []]) (fun l => l.length < 2 ^ 40 ∧ ∀ j, j < l.length → qE (l.getD j Fx.nil)) (fun l r => r = l.any fun x => !okF x) (fun _ (r : Bool) => (.bool r, []))
noncomputable def GE3F : Nat → Option Ctr := fun f => if f = 66 then some (zc3) else none
theorem UR : ∀ g c, GE3F g = some c → zb Tryd.prog g c := okIf UP (zp)
theorem zaf : zb Tryd.prog 44 zbq := by
 refine zg (fn := Tryd.f44) (c := Tryd.f44.body.getD .skip) rfl rfl rfl fun l hl O w0 Q hq => ?_
 replace hq := hq _ rfl
 refine zc.run hmix UR [] 400 (T := .ex (fun (x : List Fx) => eqL [AV.sl l.length 3 (fxG l), AV.fn 42 [] []] [AV.sl x.length 3 (fxG x), AV.fn 42 [] []] ∧ x.length < 1099511627776 ∧ ∀ (j : Nat), j < x.length → qE (x.getD j Fx.nil)) fun n => .all (fun (r : Int) => r = idxB (fun (x : Fx) => !okF x) n) fun n => .leaf (.ret [.bool (decide ((0 : Int) ≤ n))] [])) (by kernel_rfl) ?_
 simp only [Tree.holds, zd]
 refine ⟨l, ⟨by simp [za], hl⟩, ⟨_, rfl⟩, ?_⟩
 rintro _ rfl
 rw [← Jo] at hq
 exact RetR.scal hq rfl (by simp [resV])
def zbs : Ctr := ctrP true (fun l : List Ch => [chS l, .fn 43 [] []]) (fun l => l.length < 2 ^ 40 ∧ ∀ j, j < l.length → jB (l.getD j Ch.nil)) (fun l r => r = idxB (fun x => !okC x) l) (fun _ (r : Int) => (.int .i64 r, []))
def SIxC (l : List Ch) (i : Nat) : KV := [(0, chS l), (1, .fn 43 [] []), (7, .int .i64 (l.length : Int)), (8, .int .i64 (i : Int))]
noncomputable def GE2C : Nat → Option Ctr := fun f => if f = 43 then some (zbw) else none
theorem V9 : ∀ g c, GE2C g = some c → zb Tryd.prog g c := okIf zbe (zp)
theorem UU : zb Tryd.prog 68 zbs := by
 refine zg (fn := Tryd.f68) (c := Tryd.f68.body.getD .skip) rfl rfl rfl fun l hl O w0 Q hq => ?_
 obtain ⟨hl, hsm⟩ := hl
 replace hq := hq _ rfl
 refine zc.run hmix V9 [0, 1, 7, 8] 400 (T := .leaf (.loop (Prod.fst (lps K68 0)) (Prod.snd (lps K68 0)) [(0, .sl l.length 4 (chG l)), (1, .fn 43 [] []), (7, .int .i64 l.length), (8, .int .i64 0)] [])) (by kernel_rfl) ?_
 simp only [Tree.holds, zd]
 refine zc.loop (ι := {i : Nat // i ≤ l.length ∧ ∀ j, j < i → (!okC (l.getD j Ch.nil)) = false}) (fun i => SIxC l i.1) (fun _ => []) (fun i => l.length - i.1) ⟨0, Nat.zero_le _, fun j hj => by omega⟩ 0 ?_ ?_ (by kernel_rfl)
 ·exact ⟨by simp [SIxC, chS, za], by simp, by kernel_rfl, Nat.zero_le _⟩
 ·rintro ⟨i, hil, hib⟩
  refine zc.run hmix V9 [0, 1, 7, 8] 400 (T := .ite (decide ((↑i : Int) < l.length)) (.side ((0 : Int) ≤ i ∧ (↑i : Int) < l.length) (.ex (fun (x : Ch) => eqL [AV.agg [AV.str (Ch.zj (List.getD l (Int.toNat (↑i : Int)) Ch.nil)), AV.str (Ch.name (List.getD l (Int.toNat (↑i : Int)) Ch.nil)), AV.int .i64 (Ch.date (List.getD l (Int.toNat (↑i : Int)) Ch.nil)), AV.bool (Ch.first (List.getD l (Int.toNat (↑i : Int)) Ch.nil))]] [AV.agg [AV.str x.zj, AV.str x.name, AV.int .i64 x.date, AV.bool x.first]] ∧ jB x) fun n => .all (fun (r : Bool) => r = !okC n) fun n => .ite n (.leaf (.ret [.int .i64 i] [])) (.side (inR .i64 ((↑i : Int) + (1 : Int))) (.leaf (.back 0 [(0, .sl l.length 4 (chG l)), (1, .fn 43 [] []), (7, .int .i64 l.length), (8, .int .i64 ((↑i : Int) + (1 : Int)))] []))))) (.leaf (.ret [.int .i64 (-1 : Int)] []))) (by kernel_rfl) ?_
  simp only [Tree.holds, zd, inR, lo, hi, Int.toNat_natCast]
  refine ⟨fun hlt => ?_, fun hge => ?_⟩
  ·have hlt : i < l.length := by have := of_decide_eq_true hlt; omega
   refine ⟨by omega, fun _ => ⟨l.getD i Ch.nil, ⟨by simp, hsm i hlt⟩, ⟨_, rfl⟩, ?_⟩⟩
   rintro _ rfl
   refine ⟨fun h => ?_, fun h => ⟨by omega, fun _ => ?_⟩⟩
   ·rw [yN hlt h hib] at hq
    exact RetR.scal hq rfl (by simp [resV])
   ·rw [if_pos trivial]
    refine ⟨⟨i + 1, hlt, fun j hj => ?_⟩, by show l.length - (i + 1) < l.length - i; omega, by simp [SIxC, chS, za], by simp, by kernel_rfl, Nat.zero_le _⟩
    rcases Nat.lt_or_ge j i with h1 | h1
    ·exact hib j h1
    ·have : j = i := by omega
     rw [this]; exact h
  ·have hge : i = l.length := by have := of_decide_eq_false hge; omega
   subst hge
   rw [ku hib] at hq
   exact RetR.scal hq rfl (by simp [resV])
def zbt : Ctr := ctrP true (fun l : List Ch => [chS l, .fn 43 [] []]) (fun l => l.length < 2 ^ 40 ∧ ∀ j, j < l.length → jB (l.getD j Ch.nil)) (fun l r => r = l.any fun x => !okC x) (fun _ (r : Bool) => (.bool r, []))
noncomputable def GE3C : Nat → Option Ctr := fun f => if f = 68 then some (zbs) else none
theorem zat : ∀ g c, GE3C g = some c → zb Tryd.prog g c := okIf UU (zp)
theorem zbm : zb Tryd.prog 45 zbt := by
 refine zg (fn := Tryd.f45) (c := Tryd.f45.body.getD .skip) rfl rfl rfl fun l hl O w0 Q hq => ?_
 replace hq := hq _ rfl
 refine zc.run hmix zat [] 400 (T := .ex (fun (x : List Ch) => eqL [AV.sl l.length 4 (chG l), AV.fn 43 [] []] [AV.sl x.length 4 (chG x), AV.fn 43 [] []] ∧ x.length < 1099511627776 ∧ ∀ (j : Nat), j < x.length → jB (x.getD j Ch.nil)) fun n => .all (fun (r : Int) => r = idxB (fun (x : Ch) => !okC x) n) fun n => .leaf (.ret [.bool (decide ((0 : Int) ≤ n))] [])) (by kernel_rfl) ?_
 simp only [Tree.holds, zd]
 refine ⟨l, ⟨by simp [za], hl⟩, ⟨_, rfl⟩, ?_⟩
 rintro _ rfl
 rw [← Jo] at hq
 exact RetR.scal hq rfl (by simp [resV])
def zbu : Ctr := ctrP true (fun l : List Fx => [fxS l, .fn 38 [] []]) (fun l => l.length < 2 ^ 40) (fun l r => r = ordB cmpF Fx.nil l) (fun _ (r : Bool) => (.bool r, []))
def SOdF (l : List Fx) (i : Nat) : KV := [(0, fxS l), (1, .fn 38 [] []), (5, .int .i64 (i : Int))]
noncomputable def GE4F : Nat → Option Ctr := fun f => if f = 38 then some (xy) else none
theorem Kw : ∀ g c, GE4F g = some c → zb Tryd.prog g c := okIf kN (zp)
theorem za5 : zb Tryd.prog 46 zbu := by
 refine zg (fn := Tryd.f46) (c := Tryd.f46.body.getD .skip) rfl rfl rfl fun l hl O w0 Q hq => ?_
 replace hq := hq _ rfl
 refine zc.run hmix Kw [0, 1, 5] 400 (T := .leaf (.loop (Prod.fst (lps K46 0)) (Prod.snd (lps K46 0)) [(0, .sl l.length 3 (fxG l)), (1, .fn 38 [] []), (5, .int .i64 1)] [])) (by kernel_rfl) ?_
 simp only [Tree.holds, zd]
 refine zc.loop (ι := {i : Nat // 0 < i ∧ (i ≤ l.length ∨ i = 1) ∧ ∀ j, j + 1 < i → cmpF (l.getD j Fx.nil) (l.getD (j + 1) Fx.nil) < 0}) (fun i => SOdF l i.1) (fun _ => []) (fun i => l.length - i.1) ⟨1, Nat.one_pos, .inr rfl, fun j hj => by omega⟩ 0 ?_ ?_ (by kernel_rfl)
 ·exact ⟨by simp [SOdF, fxS, za], by simp, by kernel_rfl, Nat.zero_le _⟩
 ·rintro ⟨i, hi0, hil, hib⟩
  refine zc.run hmix Kw [0, 1, 5] 400 (T := .ite (decide ((↑i : Int) < l.length)) (.side (inR .i64 ((↑i : Int) - (1 : Int))) (.side ((0 : Int) ≤ i - (1 : Int) ∧ (↑i : Int) - (1 : Int) < l.length) (.side ((0 : Int) ≤ i ∧ (↑i : Int) < l.length) (.ex (fun (x : Fx × Fx) => eqL [AV.agg [AV.str (Fx.name (List.getD l (Int.toNat ((↑i : Int) - (1 : Int))) Fx.nil)), AV.int .i64 (Fx.date (List.getD l (Int.toNat ((↑i : Int) - (1 : Int))) Fx.nil)), AV.str (Fx.value (List.getD l (Int.toNat ((↑i : Int) - (1 : Int))) Fx.nil))], AV.agg [AV.str (Fx.name (List.getD l (Int.toNat (↑i : Int)) Fx.nil)), AV.int .i64 (Fx.date (List.getD l (Int.toNat (↑i : Int)) Fx.nil)), AV.str (Fx.value (List.getD l (Int.toNat (↑i : Int)) Fx.nil))]] [AV.agg [AV.str x.1.name, AV.int .i64 x.1.date, AV.str x.1.value], AV.agg [AV.str x.2.name, AV.int .i64 x.2.date, AV.str x.2.value]] ∧ True) fun n => .all (fun (r : Int) => r = cmpF n.1 n.2) fun n => .ite (decide ((0 : Int) ≤ n)) (.leaf (.ret [.bool false] [])) (.side (inR .i64 ((↑i : Int) + (1 : Int))) (.leaf (.back 0 [(0, .sl l.length 3 (fxG l)), (1, .fn 38 [] []), (5, .int .i64 ((↑i : Int) + (1 : Int)))] []))))))) (.leaf (.ret [.bool true] []))) (by kernel_rfl) ?_
  simp only [Tree.holds, zd, inR, lo, hi, Int.toNat_natCast]
  have e : ((i : Int) - 1).toNat = i - 1 := by omega
  have e2 : i - 1 + 1 = i := by omega
  refine ⟨fun hlt => ?_, fun hge => ?_⟩
  ·have hlt : i < l.length := by have := of_decide_eq_true hlt; omega
   simp only [e]
   refine ⟨by omega, fun _ => ⟨by omega, fun _ => ⟨by omega, fun _ => ⟨(l.getD (i - 1) Fx.nil, l.getD i Fx.nil), ⟨by simp, trivial⟩, ⟨_, rfl⟩, ?_⟩⟩⟩⟩
   rintro _ rfl
   refine ⟨fun h => ?_, fun h => ⟨by omega, fun _ => ?_⟩⟩
   ·have h := of_decide_eq_true h
    rw [Jg (z := Fx.nil) (j := i - 1) (by omega) (by rw [e2]; simp only at h; omega)] at hq
    exact RetR.scal hq rfl (by simp [resV])
   ·have h := of_decide_eq_false h
    rw [if_pos trivial]
    refine ⟨⟨i + 1, by omega, .inl hlt, fun j hj => ?_⟩, by show l.length - (i + 1) < l.length - i; omega, by simp [SOdF, fxS, za], by simp, by kernel_rfl, Nat.zero_le _⟩
    rcases Nat.lt_or_ge (j + 1) i with h1 | h1
    ·exact hib j h1
    ·have : j = i - 1 := by omega
     rw [this, e2]; simp only at h; omega
  ·have hge : l.length ≤ i := by have := of_decide_eq_false hge; omega
   rw [uI (z := Fx.nil) fun j hj => hib j (by omega)] at hq
   exact RetR.scal hq rfl (by simp [resV])
def zc6 : Ctr := ctrP true (fun l : List Ch => [chS l, .fn 48 [] []]) (fun l => l.length < 2 ^ 40) (fun l r => r = ordB cmpC Ch.nil l) (fun _ (r : Bool) => (.bool r, []))
def SOdC (l : List Ch) (i : Nat) : KV := [(0, chS l), (1, .fn 48 [] []), (5, .int .i64 (i : Int))]
noncomputable def GE4C : Nat → Option Ctr := fun f => if f = 48 then some (xJ) else none
theorem Ka : ∀ g c, GE4C g = some c → zb Tryd.prog g c := okIf xd (zp)
theorem zan : zb Tryd.prog 47 zc6 := by
 refine zg (fn := Tryd.f47) (c := Tryd.f47.body.getD .skip) rfl rfl rfl fun l hl O w0 Q hq => ?_
 replace hq := hq _ rfl
 refine zc.run hmix Ka [0, 1, 5] 400 (T := .leaf (.loop (Prod.fst (lps K47 0)) (Prod.snd (lps K47 0)) [(0, .sl l.length 4 (chG l)), (1, .fn 48 [] []), (5, .int .i64 1)] [])) (by kernel_rfl) ?_
 simp only [Tree.holds, zd]
 refine zc.loop (ι := {i : Nat // 0 < i ∧ (i ≤ l.length ∨ i = 1) ∧ ∀ j, j + 1 < i → cmpC (l.getD j Ch.nil) (l.getD (j + 1) Ch.nil) < 0}) (fun i => SOdC l i.1) (fun _ => []) (fun i => l.length - i.1) ⟨1, Nat.one_pos, .inr rfl, fun j hj => by omega⟩ 0 ?_ ?_ (by kernel_rfl)
 ·exact ⟨by simp [SOdC, chS, za], by simp, by kernel_rfl, Nat.zero_le _⟩
 ·rintro ⟨i, hi0, hil, hib⟩
  refine zc.run hmix Ka [0, 1, 5] 400 (T := .ite (decide ((↑i : Int) < l.length)) (.side (inR .i64 ((↑i : Int) - (1 : Int))) (.side ((0 : Int) ≤ i - (1 : Int) ∧ (↑i : Int) - (1 : Int) < l.length) (.side ((0 : Int) ≤ i ∧ (↑i : Int) < l.length) (.ex (fun (x : Ch × Ch) => eqL [AV.agg [AV.str (Ch.zj (List.getD l (Int.toNat ((↑i : Int) - (1 : Int))) Ch.nil)), AV.str (Ch.name (List.getD l (Int.toNat ((↑i : Int) - (1 : Int))) Ch.nil)), AV.int .i64 (Ch.date (List.getD l (Int.toNat ((↑i : Int) - (1 : Int))) Ch.nil)), AV.bool (Ch.first (List.getD l (Int.toNat ((↑i : Int) - (1 : Int))) Ch.nil))], AV.agg [AV.str (Ch.zj (List.getD l (Int.toNat (↑i : Int)) Ch.nil)), AV.str (Ch.name (List.getD l (Int.toNat (↑i : Int)) Ch.nil)), AV.int .i64 (Ch.date (List.getD l (Int.toNat (↑i : Int)) Ch.nil)), AV.bool (Ch.first (List.getD l (Int.toNat (↑i : Int)) Ch.nil))]] [AV.agg [AV.str x.1.zj, AV.str x.1.name, AV.int .i64 x.1.date, AV.bool x.1.first], AV.agg [AV.str x.2.zj, AV.str x.2.name, AV.int .i64 x.2.date, AV.bool x.2.first]] ∧ True) fun n => .all (fun (r : Int) => r = cmpC n.1 n.2) fun n => .ite (decide ((0 : Int) ≤ n)) (.leaf (.ret [.bool false] [])) (.side (inR .i64 ((↑i : Int) + (1 : Int))) (.leaf (.back 0 [(0, .sl l.length 4 (chG l)), (1, .fn 48 [] []), (5, .int .i64 ((↑i : Int) + (1 : Int)))] []))))))) (.leaf (.ret [.bool true] []))) (by kernel_rfl) ?_
  simp only [Tree.holds, zd, inR, lo, hi, Int.toNat_natCast]
  have e : ((i : Int) - 1).toNat = i - 1 := by omega
  have e2 : i - 1 + 1 = i := by omega
  refine ⟨fun hlt => ?_, fun hge => ?_⟩
  ·have hlt : i < l.length := by have := of_decide_eq_true hlt; omega
   simp only [e]
   refine ⟨by omega, fun _ => ⟨by omega, fun _ => ⟨by omega, fun _ => ⟨(l.getD (i - 1) Ch.nil, l.getD i Ch.nil), ⟨by simp, trivial⟩, ⟨_, rfl⟩, ?_⟩⟩⟩⟩
   rintro _ rfl
   refine ⟨fun h => ?_, fun h => ⟨by omega, fun _ => ?_⟩⟩
   ·have h := of_decide_eq_true h
    rw [Jg (z := Ch.nil) (j := i - 1) (by omega) (by rw [e2]; simp only at h; omega)] at hq
    exact RetR.scal hq rfl (by simp [resV])
   ·have h := of_decide_eq_false h
    rw [if_pos trivial]
    refine ⟨⟨i + 1, by omega, .inl hlt, fun j hj => ?_⟩, by show l.length - (i + 1) < l.length - i; omega, by simp [SOdC, chS, za], by simp, by kernel_rfl, Nat.zero_le _⟩
    rcases Nat.lt_or_ge (j + 1) i with h1 | h1
    ·exact hib j h1
    ·have : j = i - 1 := by omega
     rw [this, e2]; simp only at h; omega
  ·have hge : l.length ≤ i := by have := of_decide_eq_false hge; omega
   rw [uI (z := Ch.nil) fun j hj => hib j (by omega)] at hq
   exact RetR.scal hq rfl (by simp [resV])
def envP (p : List Fx × List Ch) : Prop := p.1.length < 2 ^ 40 ∧ p.2.length < 2 ^ 40 ∧ (∀ j, j < p.1.length → qE (p.1.getD j Fx.nil)) ∧ ∀ j, j < p.2.length → jB (p.2.getD j Ch.nil)
def yL : Ctr := ctrP true (fun p : List Fx × List Ch => [envA p.1 p.2]) envP (fun p r => r = errE p.1 p.2) (fun _ (r : Int) => (.int .i64 r, []))
noncomputable def GE5 : Nat → Option Ctr := fun f => if f = 44 then some (zbq) else if f = 45 then some (zbt) else if f = 46 then some (zbu) else if f = 47 then some (zc6) else none
theorem zdc : ∀ g c, GE5 g = some c → zb Tryd.prog g c := okIf zaf (okIf zbm (okIf za5 (okIf zan (zp))))
theorem xY : zb Tryd.prog 21 yL := by
 refine zg (fn := Tryd.f21) (c := Tryd.f21.body.getD .skip) rfl rfl rfl fun p hp O w0 Q hq => ?_
 obtain ⟨f, c⟩ := p
 obtain ⟨h1, h2, h3, h4⟩ := hp
 replace hq := hq _ rfl
 simp only at hq h1 h2 h3 h4
 refine zc.run hmix zdc [] 400 (T := .ite (bif decide ((1000 : Int) < f.length) then true else decide ((1000 : Int) < c.length)) (.leaf (.ret [.int .i64 4] [.box [.sl f.length 3 (fxG f), .sl c.length 4 (chG c)]])) (.ex (fun (x : List Fx) => eqL [AV.sl f.length 3 (fxG f), AV.fn 42 [] []] [AV.sl x.length 3 (fxG x), AV.fn 42 [] []] ∧ x.length < 1099511627776 ∧ ∀ (j : Nat), j < x.length → qE (x.getD j Fx.nil)) fun n => .all (fun (r : Bool) => r = List.any n fun (x : Fx) => !okF x) fun n => .ex (fun (x : List Ch) => n = false → eqL [AV.sl c.length 4 (chG c), AV.fn 43 [] []] [AV.sl x.length 4 (chG x), AV.fn 43 [] []] ∧ x.length < 1099511627776 ∧ ∀ (j : Nat), j < x.length → jB (x.getD j Ch.nil)) fun n_1 => .all (fun (x : Bool) => n = false → x = List.any n_1 fun (x : Ch) => !okC x) fun n_2 => .ex (fun (x : List Fx) => (bif n then true else n_2) = false → eqL [AV.sl f.length 3 (fxG f), AV.fn 38 [] []] [AV.sl x.length 3 (fxG x), AV.fn 38 [] []] ∧ x.length < 1099511627776) fun n_3 => .all (fun (x : Bool) => (bif n then true else n_2) = false → x = ordB cmpF Fx.nil n_3) fun n_4 => .ex (fun (x : List Ch) => (bif bif n then true else n_2 then true else !n_4) = false → eqL [AV.sl c.length 4 (chG c), AV.fn 48 [] []] [AV.sl x.length 4 (chG x), AV.fn 48 [] []] ∧ x.length < 1099511627776) fun n_5 => .all (fun (x : Bool) => (bif bif n then true else n_2 then true else !n_4) = false → x = ordB cmpC Ch.nil n_5) fun n_6 => .ite (bif bif bif n then true else n_2 then true else !n_4 then true else !n_6) (.leaf (.ret [.int .i64 8] [.box [.sl f.length 3 (fxG f), .sl c.length 4 (chG c)]])) (.leaf (.ret [.int .i64 0] [.box [.sl f.length 3 (fxG f), .sl c.length 4 (chG c)]])))) (by kernel_rfl) ?_
 simp only [Tree.holds, zd]
 refine ⟨fun h => ?_, fun h => ?_⟩
 ·have h : 1000 < f.length ∨ 1000 < c.length := by
   rw [Bool.cond_eq_ite] at h
   split at h
   ·rename_i h1; left; have := of_decide_eq_true h1; omega
   ·right; have := of_decide_eq_true h; omega
  have : errE f c = 4 := if_pos h
  rw [this] at hq; exact RetR.scal hq rfl (by simp [resV])
 ·have h : ¬ (1000 < f.length ∨ 1000 < c.length) := by
   rw [Bool.cond_eq_ite] at h
   split at h
   ·cases h
   ·rename_i h1
    have h2 := of_decide_eq_false h
    rintro (h3 | h3)
    ·exact h1 (decide_eq_true (by omega))
    ·omega
  have he : errE f c = if (f.all okF && c.all okC && ordB cmpF Fx.nil f && ordB cmpC Ch.nil c) = true then 0 else 8 := if_neg h
  have a1 : (f.any fun x => !okF x) = !f.all okF := by rw [List.not_all_eq_any_not]
  have a2 : (c.any fun x => !okC x) = !c.all okC := by rw [List.not_all_eq_any_not]
  refine ⟨f, ⟨by simp [za], h1, h3⟩, ⟨_, rfl⟩, ?_⟩
  rintro _ rfl
  refine ⟨c, fun _ => ⟨by simp [za], h2, h4⟩, ⟨_, fun _ => rfl⟩, ?_⟩
  intro b1 g1
  refine ⟨f, fun _ => ⟨by simp [za], h1⟩, ⟨_, fun _ => rfl⟩, ?_⟩
  intro b2 g2
  refine ⟨c, fun _ => ⟨by simp [za], h2⟩, ⟨_, fun _ => rfl⟩, ?_⟩
  intro b3 g3
  rw [a1] at g1 g2 g3 ⊢
  rw [a2] at g1
  clear a1 a2
  generalize f.all okF = p1 at *
  generalize c.all okC = p2 at *
  generalize ordB cmpF Fx.nil f = p3 at *
  generalize ordB cmpC Ch.nil c = p4 at *
  have key : (bif bif bif !p1 then true else b1 then true else !b2 then true else !b3) = !(p1 && p2 && p3 && p4) := by
   cases p1 with
   | false => rfl
   | true =>
    have g1 := g1 rfl
    subst g1
    cases p2 with
    | false => rfl
    | true =>
     have g2 := g2 rfl
     subst g2
     cases b2 with
     | false => rfl
     | true => have g3 := g3 rfl; subst g3; rfl
  rw [key]
  clear key g1 g2 g3
  generalize (p1 && p2 && p3 && p4) = q at *
  refine ⟨fun h => ?_, fun h => ?_⟩
  ·cases q with
   | true => cases h
   | false => rw [he, if_neg (by decide)] at hq; exact RetR.scal hq rfl (by simp [resV])
  ·cases q with
   | false => cases h
   | true => rw [he, if_pos rfl] at hq; exact RetR.scal hq rfl (by simp [resV])
end Go.Proofs.Tryd
end

/- What is known: the reference's checks. -/
section
set_option maxRecDepth 100000
open Go Go.Sx Go.Proofs Go.Nov
namespace Go.Proofs.Tryd
attribute [local simp] eqKV eqA eqA0 eqH eqB eqL eqL0
noncomputable def K22 : List Go.Sx.Item := [.code (Tryd.f22.body.getD .skip)]
def SSE (i : Nat) : KV := [(2, .ptr 0 0), (3, .ptr 1 0), (5, .int .i64 (i : Int)), (6, .undef)]
def SSE2 (i : Nat) : KV := [(2, .ptr 0 0), (3, .ptr 1 0), (5, .undef), (6, .int .i64 (i : Int))]
def HSE (f f2 : List Fx) (c c2 : List Ch) : Heap := [.box [fxS f, chS c], .box [fxS f2, chS c2]]
def Ww : Ctr := ctrP true (fun p : (List Fx × List Ch) × (List Fx × List Ch) => [envA p.1.1 p.1.2, envA p.2.1 p.2.2]) (fun p => p.1.1.length < 2 ^ 40 ∧ p.1.2.length < 2 ^ 40) (fun p r => (r = true ↔ p.1 = p.2)) (fun _ (r : Bool) => (.bool r, []))
theorem Jt {O : Nat → Prop} {w0 : World} {Q : AV × Heap → Prop} {Hs : Nat → KV → Heap → Prop} (f f2 : List Fx) (c c2 : List Ch) (h2 : c.length < 2 ^ 40) (hf : f = f2) (hl : c.length = c2.length) (hq : ∀ (r : Bool), (r = true ↔ (f, c) = (f2, c2)) → Q (.bool r, [])) (kv : KV) (h : Heap) (hle : LeK 0 Tryd.f22.ntmps kv h (SSE2 0) (HSE f f2 c c2)) :
  zc Tryd.prog Tryd.f22 O 0 w0 [] Hs (RetR Ww 0 Q) (.code (.loop (lps (inside K22 0) 0).1) :: (lps (inside K22 0) 0).2) (mk Tryd.f22.ntmps kv h) := by
 refine zc.loop (ι := {i : Nat // i ≤ c.length ∧ ∀ j, j < i → c.getD j Ch.nil = c2.getD j Ch.nil}) (fun i => SSE2 i.1) (fun _ => HSE f f2 c c2) (fun i => c.length - i.1) ⟨0, Nat.zero_le _, fun j hj => by omega⟩ 0 hle ?_ (by kernel_rfl)
 rintro ⟨i, hil, hib⟩
 refine zc.run hmix z5 [2, 3, 5, 6] 400 (T := .ite (decide ((↑i : Int) < c.length)) (.side ((0 : Int) ≤ i ∧ (↑i : Int) < c.length) (.side ((0 : Int) ≤ i ∧ (↑i : Int) < c2.length) (.ite (!(decide (Ch.zj (List.getD c (Int.toNat (↑i : Int)) Ch.nil) = Ch.zj (List.getD c2 (Int.toNat (↑i : Int)) Ch.nil)) && (decide (Ch.name (List.getD c (Int.toNat (↑i : Int)) Ch.nil) = Ch.name (List.getD c2 (Int.toNat (↑i : Int)) Ch.nil)) && (decide (Ch.date (List.getD c (Int.toNat (↑i : Int)) Ch.nil) = Ch.date (List.getD c2 (Int.toNat (↑i : Int)) Ch.nil)) && (Ch.first (List.getD c (Int.toNat (↑i : Int)) Ch.nil) == Ch.first (List.getD c2 (Int.toNat (↑i : Int)) Ch.nil) && true))))) (.leaf (.ret [.bool false] [.box [.sl f.length 3 (fxG f), .sl c.length 4 (chG c)], .box [.sl f2.length 3 (fxG f2), .sl c2.length 4 (chG c2)]])) (.side (inR .i64 ((↑i : Int) + (1 : Int))) (.leaf (.back 0 [(2, .ptr 0 0), (3, .ptr 1 0), (5, .undef), (6, .int .i64 ((↑i : Int) + (1 : Int)))] [.box [.sl f.length 3 (fxG f), .sl c.length 4 (chG c)], .box [.sl f2.length 3 (fxG f2), .sl c2.length 4 (chG c2)]])))))) (.leaf (.ret [.bool true] [.box [.sl f.length 3 (fxG f), .sl c.length 4 (chG c)], .box [.sl f2.length 3 (fxG f2), .sl c2.length 4 (chG c2)]]))) (by kernel_rfl) ?_
 simp only [Tree.holds, zd, inR, lo, hi, Int.toNat_natCast]
 refine ⟨fun hlt => ?_, fun hge => ?_⟩
 ·have hlt : i < c.length := by have := of_decide_eq_true hlt; omega
  refine ⟨by omega, fun _ => ⟨by omega, fun _ => ⟨fun h => ?_, fun h => ⟨by omega, fun _ => ?_⟩⟩⟩⟩
  ·refine RetR.scal (hq false ⟨fun h => (by cases h), fun he => ?_⟩) rfl (by simp [resV])
   have hc : c = c2 := (Prod.mk.inj he).2
   have := Ch.eq_iff.2 (show c.getD i Ch.nil = c2.getD i Ch.nil by rw [hc])
   rw [this] at h; cases h
  ·rw [if_pos trivial]
   have he := Ch.eq_iff.1 (by simpa only [Bool.not_eq_false'] using h)
   refine ⟨⟨i + 1, hlt, fun j hj => ?_⟩, by show c.length - (i + 1) < c.length - i; omega, by simp [SSE2], by simp [HSE, fxS, chS, za], by kernel_rfl, Nat.zero_le _⟩
   rcases Nat.lt_or_ge j i with h1 | h1
   ·exact hib j h1
   ·have : j = i := by omega
    rw [this]; exact he
 ·have hge : i = c.length := by have := of_decide_eq_false hge; omega
  subst hge
  have hc := J7 hl hib
  exact RetR.scal (hq true ⟨fun _ => by rw [hf, hc], fun _ => rfl⟩) rfl (by simp [resV])
theorem Ux : zb Tryd.prog 22 Ww := by
 refine zg (fn := Tryd.f22) (c := Tryd.f22.body.getD .skip) rfl rfl rfl fun p hp O w0 Q hq => ?_
 obtain ⟨⟨f, c⟩, ⟨f2, c2⟩⟩ := p
 obtain ⟨h1, h2⟩ := hp
 simp only at hq h1 h2
 refine zc.run hmix z5 [2, 3, 5, 6] 400 (T := .ite (bif !decide ((↑f.length : Int) = f2.length) then true else !decide ((↑c.length : Int) = c2.length)) (.leaf (.ret [.bool false] [.box [.sl f.length 3 (fxG f), .sl c.length 4 (chG c)], .box [.sl f2.length 3 (fxG f2), .sl c2.length 4 (chG c2)]])) (.leaf (.loop (Prod.fst (lps K22 0)) (Prod.snd (lps K22 0)) [(2, .ptr 0 0), (3, .ptr 1 0), (5, .int .i64 0), (6, .undef)] [.box [.sl f.length 3 (fxG f), .sl c.length 4 (chG c)], .box [.sl f2.length 3 (fxG f2), .sl c2.length 4 (chG c2)]]))) (by kernel_rfl) ?_
 simp only [Tree.holds, zd]
 refine ⟨fun h => ?_, fun h => ?_⟩
 ·refine RetR.scal (hq false ⟨fun h => (by cases h), fun he => ?_⟩) rfl (by simp [resV])
  obtain ⟨e1, e2⟩ := Prod.mk.inj he
  subst e1; subst e2
  simp at h
 ·have hl : f.length = f2.length ∧ c.length = c2.length := by
   by_cases e1 : f.length = f2.length
   ·by_cases e2 : c.length = c2.length
    ·exact ⟨e1, e2⟩
    ·rw [decide_eq_false (show ¬ ((c.length : Nat) : Int) = c2.length by omega)] at h
     rw [decide_eq_true (show ((f.length : Nat) : Int) = f2.length by omega)] at h
     cases h
   ·rw [decide_eq_false (show ¬ ((f.length : Nat) : Int) = f2.length by omega)] at h
    cases h
  refine zc.loop (ι := {i : Nat // i ≤ f.length ∧ ∀ j, j < i → f.getD j Fx.nil = f2.getD j Fx.nil}) (fun i => SSE i.1) (fun _ => HSE f f2 c c2) (fun i => f.length - i.1) ⟨0, Nat.zero_le _, fun j hj => by omega⟩ 0 ?_ ?_ (by kernel_rfl)
  ·exact ⟨by simp [SSE], by simp [HSE, fxS, chS, za], by kernel_rfl, Nat.zero_le _⟩
  ·rintro ⟨i, hil, hib⟩
   refine zc.run hmix z5 [2, 3, 5, 6] 400 (T := .ite (decide ((↑i : Int) < f.length)) (.side ((0 : Int) ≤ i ∧ (↑i : Int) < f.length) (.side ((0 : Int) ≤ i ∧ (↑i : Int) < f2.length) (.ite (!(decide (Fx.name (List.getD f (Int.toNat (↑i : Int)) Fx.nil) = Fx.name (List.getD f2 (Int.toNat (↑i : Int)) Fx.nil)) && (decide (Fx.date (List.getD f (Int.toNat (↑i : Int)) Fx.nil) = Fx.date (List.getD f2 (Int.toNat (↑i : Int)) Fx.nil)) && (decide (Fx.value (List.getD f (Int.toNat (↑i : Int)) Fx.nil) = Fx.value (List.getD f2 (Int.toNat (↑i : Int)) Fx.nil)) && true)))) (.leaf (.ret [.bool false] [.box [.sl f.length 3 (fxG f), .sl c.length 4 (chG c)], .box [.sl f2.length 3 (fxG f2), .sl c2.length 4 (chG c2)]])) (.side (inR .i64 ((↑i : Int) + (1 : Int))) (.leaf (.back 0 [(2, .ptr 0 0), (3, .ptr 1 0), (5, .int .i64 ((↑i : Int) + (1 : Int))), (6, .undef)] [.box [.sl f.length 3 (fxG f), .sl c.length 4 (chG c)], .box [.sl f2.length 3 (fxG f2), .sl c2.length 4 (chG c2)]])))))) (.leaf (.loop (Prod.fst (lps (inside K22 0) 0)) (Prod.snd (lps (inside K22 0) 0)) [(2, .ptr 0 0), (3, .ptr 1 0), (5, .int .i64 i), (6, .int .i64 0)] [.box [.sl f.length 3 (fxG f), .sl c.length 4 (chG c)], .box [.sl f2.length 3 (fxG f2), .sl c2.length 4 (chG c2)]]))) (by kernel_rfl) ?_
   simp only [Tree.holds, zd, inR, lo, hi, Int.toNat_natCast]
   refine ⟨fun hlt => ?_, fun hge => ?_⟩
   ·have hlt : i < f.length := by have := of_decide_eq_true hlt; omega
    refine ⟨by omega, fun _ => ⟨by omega, fun _ => ⟨fun h => ?_, fun h => ⟨by omega, fun _ => ?_⟩⟩⟩⟩
    ·refine RetR.scal (hq false ⟨fun h => (by cases h), fun he => ?_⟩) rfl (by simp [resV])
     have hc : f = f2 := (Prod.mk.inj he).1
     have := Fx.eq_iff.2 (show f.getD i Fx.nil = f2.getD i Fx.nil by rw [hc])
     rw [this] at h; cases h
    ·rw [if_pos trivial]
     have he := Fx.eq_iff.1 (by simpa only [Bool.not_eq_false'] using h)
     refine ⟨⟨i + 1, hlt, fun j hj => ?_⟩, by show f.length - (i + 1) < f.length - i; omega, by simp [SSE], by simp [HSE, fxS, chS, za], by kernel_rfl, Nat.zero_le _⟩
     rcases Nat.lt_or_ge j i with h1 | h1
     ·exact hib j h1
     ·have : j = i := by omega
      rw [this]; exact he
   ·have hge : i = f.length := by have := of_decide_eq_false hge; omega
    subst hge
    have hf := J7 hl.1 hib
    exact Jt f f2 c c2 h2 hf hl.2 hq _ _ ⟨by simp [SSE2], by simp [HSE, fxS, chS, za], by kernel_rfl, Nat.zero_le _⟩
end Go.Proofs.Tryd
end

/- A place in an ordered list. -/
section
namespace Go.Nov
open Go.Sx
theorem QA : ∀ s : List UInt8, Op.bytesLess s s = false
 | [] => rfl
 | a :: s => by simp [Op.bytesLess, QA s]
theorem x3 : ∀ {s t u : List UInt8}, Op.bytesLess s t = true → Op.bytesLess t u = true → Op.bytesLess s u = true
 | s, [], u, h, _ => by cases s <;> simp [Op.bytesLess] at h
 | [], b :: t, [], _, h => by simp [Op.bytesLess] at h
 | [], b :: t, c :: u, _, _ => rfl
 | a :: s, b :: t, [], _, h => by simp [Op.bytesLess] at h
 | a :: s, b :: t, c :: u, h, k => by
  simp only [Op.bytesLess, Bool.or_eq_true, Bool.and_eq_true, decide_eq_true_eq, beq_iff_eq] at h k ⊢
  rcases h with h | ⟨rfl, h⟩
  ·rcases k with k | ⟨rfl, k⟩
   ·exact .inl (UInt8.lt_trans h k)
   ·exact .inl h
  ·rcases k with k | ⟨rfl, k⟩
   ·exact .inl k
   ·exact .inr ⟨rfl, x3 h k⟩
theorem VE {s t : List UInt8} : cmpS s t < 0 ↔ Op.bytesLess s t = true := by
 unfold cmpS
 cases Op.bytesLess s t with
 | true => simp
 | false => by_cases h : s = t <;> simp [h]
theorem jJ {s t : List UInt8} : cmpS s t = 0 ↔ s = t := by
 unfold cmpS
 cases hb : Op.bytesLess s t with
 | true =>
  simp only [if_true]
  refine ⟨fun h => by omega, fun h => ?_⟩
  subst h; rw [QA] at hb; cases hb
 | false => by_cases h : s = t <;> simp [h]
theorem VD {x y : Int} : cmpI x y = 0 ↔ x = y := by
 unfold cmpI
 split
 ·exact ⟨fun h => by omega, fun h => by omega⟩
 ·split
  ·exact ⟨fun h => by omega, fun h => by omega⟩
  ·exact ⟨fun _ => by omega, fun _ => rfl⟩
theorem js {a b : Fx} : cmpF a b = 0 ↔ a.name = b.name ∧ a.date = b.date := by
 unfold cmpF
 by_cases h : cmpS a.name b.name = 0
 ·rw [if_pos h, VD]; exact ⟨fun h2 => ⟨jJ.1 h, h2⟩, fun h2 => h2.2⟩
 ·rw [if_neg h]; exact ⟨fun h2 => absurd h2 h, fun h2 => absurd (jJ.2 h2.1) h⟩
theorem k5 {a b : Fx} : cmpF a b < 0 ↔ Op.bytesLess a.name b.name = true ∨ a.name = b.name ∧ a.date < b.date := by
 unfold cmpF
 by_cases h : cmpS a.name b.name = 0
 ·rw [if_pos h, zbh]
  have h2 := jJ.1 h
  rw [h2, QA]
  simp
 ·rw [if_neg h, VE]
  exact ⟨fun h2 => .inl h2, fun h2 => h2.elim id fun h3 => absurd (jJ.2 h3.1) h⟩
theorem wi {a b : Ch} : cmpC a b = 0 ↔ a.zj = b.zj ∧ a.name = b.name ∧ a.date = b.date := by
 unfold cmpC
 by_cases h : cmpS a.zj b.zj = 0
 ·rw [if_pos h]
  have h1 := jJ.1 h
  by_cases h' : cmpS a.name b.name = 0
  ·rw [if_pos h', VD]; exact ⟨fun h2 => ⟨h1, jJ.1 h', h2⟩, fun h2 => h2.2.2⟩
  ·rw [if_neg h']; exact ⟨fun h2 => absurd h2 h', fun h2 => absurd (jJ.2 h2.2.1) h'⟩
 ·rw [if_neg h]; exact ⟨fun h2 => absurd h2 h, fun h2 => absurd (jJ.2 h2.1) h⟩
theorem xB {a b : Ch} : cmpC a b < 0 ↔ Op.bytesLess a.zj b.zj = true ∨ a.zj = b.zj ∧ (Op.bytesLess a.name b.name = true ∨ a.name = b.name ∧ a.date < b.date) := by
 unfold cmpC
 by_cases h : cmpS a.zj b.zj = 0
 ·rw [if_pos h]
  have h1 := jJ.1 h
  rw [h1, QA]
  have := @k5 ⟨a.name, a.date, []⟩ ⟨b.name, b.date, []⟩
  simp only [cmpF] at this
  simpa using this
 ·rw [if_neg h, VE]
  exact ⟨fun h2 => .inl h2, fun h2 => h2.elim id fun h3 => absurd (jJ.2 h3.1) h⟩
structure OrdK {α : Type} (c : α → α → Int) : Prop where
 lt : ∀ a b d, c a b < 0 → c b d < 0 → c a d < 0
 eq : ∀ a b d, c a b < 0 → c b d = 0 → c a d < 0
theorem Q1 : OrdK cmpF where
 lt a b d h k := by
  rw [k5] at *
  rcases h with h | ⟨h1, h2⟩
  ·rcases k with k | ⟨k1, k2⟩
   ·exact .inl (x3 h k)
   ·rw [k1] at h; exact .inl h
  ·rcases k with k | ⟨k1, k2⟩
   ·rw [← h1] at k; exact .inl k
   ·exact .inr ⟨h1.trans k1, by omega⟩
 eq a b d h k := by
  rw [js] at k
  rw [k5] at *
  rw [k.1, k.2] at h
  exact h
theorem Jd : OrdK cmpC where
 lt a b d h k := by
  rw [xB] at *
  rcases h with h | ⟨h0, h⟩
  ·rcases k with k | ⟨k0, k⟩
   ·exact .inl (x3 h k)
   ·rw [k0] at h; exact .inl h
  ·rcases k with k | ⟨k0, k⟩
   ·rw [← h0] at k; exact .inl k
   ·refine .inr ⟨h0.trans k0, ?_⟩
    rcases h with h | ⟨h1, h2⟩
    ·rcases k with k | ⟨k1, k2⟩
     ·exact .inl (x3 h k)
     ·rw [k1] at h; exact .inl h
    ·rcases k with k | ⟨k1, k2⟩
     ·rw [← h1] at k; exact .inl k
     ·exact .inr ⟨h1.trans k1, by omega⟩
 eq a b d h k := by
  rw [wi] at k
  rw [xB] at *
  rw [k.1, k.2.1, k.2.2] at h
  exact h
section
variable {α : Type} {c : α → α → Int} {z x : α}
def ze (c : α → α → Int) (x : α) : List α → List α
 | [] => [x]
 | o :: l => if c o x < 0 then o :: ze c x l else if c o x = 0 then x :: l else x :: o :: l
theorem x9 (hk : OrdK c) : ∀ {l : List α}, ordB c z l = true → l.Pairwise fun a b => c a b < 0
 | [], _ => .nil
 | [a], _ => by simp
 | a :: b :: l, h => by
  have h1 : c a b < 0 := by
   simp only [ordB, List.all_eq_true, List.mem_range, decide_eq_true_eq] at h
   have := h 0 (by simp)
   simpa using this
  have h2 : ordB c z (b :: l) = true := by
   simp only [ordB, List.all_eq_true, List.mem_range, decide_eq_true_eq] at h ⊢
   intro i hi
   have := h (i + 1) (by simp at hi ⊢; omega)
   simpa using this
  have ih := x9 hk h2
  refine List.pairwise_cons.2 ⟨fun y hy => ?_, ih⟩
  rcases List.mem_cons.1 hy with rfl | hy
  ·exact h1
  ·exact hk.lt _ _ _ h1 (List.rel_of_pairwise_cons ih hy)
theorem yf (hk : OrdK c) : ∀ {l : List α} {k : Nat}, l.Pairwise (fun a b => c a b < 0) → k < l.length → c (l.getD k z) x = 0 → l.set k x = ze c x l
 | [], k, _, h, _ => by simp at h
 | o :: l, 0, _, _, h => by
  simp only [List.getD_cons_zero] at h
  simp only [List.set_cons_zero, ze]
  rw [if_neg (by omega), if_pos h]
 | o :: l, k + 1, hp, hl, h => by
  simp only [List.getD_cons_succ] at h
  have hl : k < l.length := by simpa using hl
  have ih := yf hk (List.pairwise_cons.1 hp).2 hl h
  have ho : c o (l.getD k z) < 0 := List.rel_of_pairwise_cons hp (by simp [List.getD, hl])
  simp only [List.set_cons_succ, ze]
  rw [if_pos (hk.eq _ _ _ ho h), ih]
theorem xT : ∀ {l : List α} {i : Nat}, (∀ j, j < l.length → c (l.getD j z) x ≠ 0) → (∀ j, j < i → c (l.getD j z) x < 0) → i ≤ l.length → (i < l.length → ¬ c (l.getD i z) x < 0) → l.take i ++ x :: l.drop i = ze c x l
 | [], i, _, _, hi, _ => by
  have : i = 0 := by simpa using hi
  subst this; rfl
 | o :: l, 0, h0, _, _, h => by
  have h1 := h (by simp)
  have h2 := h0 0 (by simp)
  simp only [List.getD_cons_zero] at h1 h2
  simp only [ze]
  rw [if_neg h1, if_neg h2]; rfl
 | o :: l, i + 1, h0, hb, hi, h => by
  have h1 := hb 0 (by omega)
  simp only [List.getD_cons_zero] at h1
  have ih := xT (l := l) (i := i) (fun j hj => by have := h0 (j + 1) (by simp; omega); simpa using this) (fun j hj => by have := hb (j + 1) (by omega); simpa using this) (by simpa using hi) (fun hlt => by have := h (by simp; omega); simpa using this)
  simp only [ze]
  rw [if_pos h1, ← ih]; rfl
end
theorem kq {f : List Fx} {c : List Ch} : errE f c = 0 ↔ ¬ (1000 < f.length ∨ 1000 < c.length) ∧ f.all okF = true ∧ c.all okC = true ∧ ordB cmpF Fx.nil f = true ∧ ordB cmpC Ch.nil c = true := by
 unfold errE
 by_cases hb : 1000 < f.length ∨ 1000 < c.length
 ·rw [if_pos hb]; simp [hb]
 ·rw [if_neg hb]
  by_cases h : (f.all okF && c.all okC && ordB cmpF Fx.nil f && ordB cmpC Ch.nil c) = true
  ·rw [if_pos h]
   simp only [Bool.and_eq_true] at h
   exact ⟨fun _ => ⟨hb, h.1.1.1, h.1.1.2, h.1.2, h.2⟩, fun _ => rfl⟩
  ·rw [if_neg h]
   refine ⟨fun h2 => by omega, fun h2 => absurd ?_ h⟩
   simp [h2.2.1, h2.2.2.1, h2.2.2.2.1, h2.2.2.2.2]
def qf (l : List Fx) (a : List UInt8) (d : Int) : List UInt8 × Bool := match l.find? fun x => decide (x.name = a) && decide (x.date = d) with
 | some x => (x.value, true)
 | none => ([], false)
def wY (l : List Ch) (p n : List UInt8) (d : Int) : Bool := match l.find? fun x => decide (x.zj = p) && (decide (x.name = n) && decide (x.date = d)) with
 | some x => x.first
 | none => false
theorem zaw {α : Type} {p : α → Bool} {l : List α} {z : α} {i : Nat} (hi : i < l.length) (h : p (l.getD i z) = true) (hb : ∀ j, j < i → p (l.getD j z) = false) : l.find? p = some (l.getD i z) := by
 induction l generalizing i with
 | nil => simp at hi
 | cons a l ih =>
  cases i with
  | zero => simp only [List.getD_cons_zero] at h ⊢; simp [h]
  | succ i =>
   have h0 := hb 0 (by omega)
   simp only [List.getD_cons_zero, List.getD_cons_succ] at h h0 ⊢
   rw [List.find?_cons, h0]
   exact ih (by simpa using hi) h fun j hj => by have := hb (j + 1) (by omega); simpa using this
def putF (f : List Fx) (c : List Ch) (x : Fx) : (List Fx × List Ch) × Int :=
 if errE f c ≠ 0 then (([], []), errE f c) else if (qe x.name && dayB x.date) = false then (([], []), 2) else if errR x.value ≠ 0 then (([], []), errR x.value)
 else if 1000 < (ze cmpF x f).length then (([], []), 22) else ((ze cmpF x f, c), 0)
def putC (f : List Fx) (c : List Ch) (x : Ch) : (List Fx × List Ch) × Int :=
 if errE f c ≠ 0 then (([], []), errE f c) else if okC x = false then (([], []), 2)
 else if 1000 < (ze cmpC x c).length then (([], []), 22) else ((f, ze cmpC x c), 0)
end Go.Nov
end

/- What is known: the reference's checks, finding, copies. -/
section
set_option maxRecDepth 100000
open Go Go.Sx Go.Proofs Go.Nov
namespace Go.Proofs.Tryd
attribute [local simp] eqKV eqA eqA0 eqH eqB eqL eqL0
def HE (f : List Fx) (c : List Ch) : Heap := [.box [fxS f, chS c]]
def XV : Ctr := ctrP true (fun p : (List Fx × List Ch) × (List UInt8 × Int) => [envA p.1.1 p.1.2, .str p.2.1, .int .i64 p.2.2]) (fun p => p.1.1.length < 2 ^ 40) (fun p r => r = qf p.1.1 p.2.1 p.2.2) (fun _ r => (.tup [.str r.1, .bool r.2], []))
def Kz : Ctr := ctrP true (fun p : (List Fx × List Ch) × (List UInt8 × List UInt8 × Int) => [envA p.1.1 p.1.2, .str p.2.1, .str p.2.2.1, .int .i64 p.2.2.2]) (fun p => p.1.2.length < 2 ^ 40) (fun p r => r = wY p.1.2 p.2.1 p.2.2.1 p.2.2.2) (fun _ r => (.bool r, []))
end Go.Proofs.Tryd
end

/- Lists of what is known, as slices: pushed, set, put in between. -/
section
namespace Go.Nov
open Go.Sx
theorem Fx.xV (x : Fx) {j o : Nat} (hj : j < 1) (ho : o < 3) : zf (zl 3 [.str x.name, .int .i64 x.date, .str x.value]) 0 j o = x.cell o := by
 have : j = 0 := by omega
 subst this
 rcases o with _ | _ | _ | o
 ·rfl
 ·rfl
 ·rfl
 ·omega
theorem Ch.xV (x : Ch) {j o : Nat} (hj : j < 1) (ho : o < 4) : zf (zl 4 [.str x.zj, .str x.name, .int .i64 x.date, .bool x.first]) 0 j o = x.cell o := by
 have : j = 0 := by omega
 subst this
 rcases o with _ | _ | _ | _ | o
 ·rfl
 ·rfl
 ·rfl
 ·rfl
 ·omega
theorem ZZ {α : Type} (l : List α) (x z : α) (j : Nat) : (l ++ [x]).getD j z = if j < l.length then l.getD j z else if j = l.length then x else z := by
 simp only [List.getD, List.getElem?_append]
 split
 ·rfl
 ·rename_i h
  split
  ·rename_i h2; subst h2; simp
  ·rename_i h2
   have : j - l.length ≠ 0 := by omega
   obtain ⟨k, hk⟩ := Nat.exists_eq_succ_of_ne_zero this
   rw [hk]; simp
theorem zdg {l : List Fx} {x : Fx} {k : Nat} (hk : k < l.length) : eqG l.length 3 (updG (fxG l) k 0 [.str x.name, .int .i64 x.date, .str x.value]) (fxG (l.set k x)) := by
 intro j o hj ho
 simp only [updG, fxG]
 by_cases h : j = k
 ·subst h
  rw [if_pos ⟨rfl, Nat.zero_le _, by simpa using ho⟩]
  have : (l.set j x).getD j Fx.nil = x := by simp [List.getD, hk]
  rw [this]
  rcases o with _ | _ | _ | o
  ·rfl
  ·rfl
  ·rfl
  ·omega
 ·rw [if_neg (fun h2 => h h2.1)]
  have : (l.set k x).getD j Fx.nil = l.getD j Fx.nil := by simp [List.getD, List.getElem?_set, Ne.symm h]
  rw [this]
theorem zd7 {l : List Ch} {x : Ch} {k : Nat} (hk : k < l.length) : eqG l.length 4 (updG (chG l) k 0 [.str x.zj, .str x.name, .int .i64 x.date, .bool x.first]) (chG (l.set k x)) := by
 intro j o hj ho
 simp only [updG, chG]
 by_cases h : j = k
 ·subst h
  rw [if_pos ⟨rfl, Nat.zero_le _, by simpa using ho⟩]
  have : (l.set j x).getD j Ch.nil = x := by simp [List.getD, hk]
  rw [this]
  rcases o with _ | _ | _ | _ | o
  ·rfl
  ·rfl
  ·rfl
  ·rfl
  ·omega
 ·rw [if_neg (fun h2 => h h2.1)]
  have : (l.set k x).getD j Ch.nil = l.getD j Ch.nil := by simp [List.getD, List.getElem?_set, Ne.symm h]
  rw [this]
theorem xr (n sz : Nat) (g g' : Nat → Nat → AV) : eqG (0 + n) sz (appG 0 g g') g' := by
 intro j o _ _
 simp [appG]
theorem zN (n sz : Nat) (g : Nat → Nat → AV) : eqG n sz (zf g 0) g := by
 intro j o _ _
 simp [zf]
theorem UL (l : List Fx) (j o : Nat) (ho : o < 3) : zH (fxG l j o) = true := by
 simp only [fxG]
 rcases o with _ | _ | _ | o
 ·rfl
 ·rfl
 ·rfl
 ·omega
theorem UW (l : List Ch) (j o : Nat) (ho : o < 4) : zH (chG l j o) = true := by
 simp only [chG]
 rcases o with _ | _ | _ | _ | o
 ·rfl
 ·rfl
 ·rfl
 ·rfl
 ·omega
theorem kx {α : Type} {p : α → Bool} (z : α) (l : List α) : idxB p l < l.length ∧ l.find? p = if 0 ≤ idxB p l then some (l.getD (idxB p l).toNat z) else none := by
 unfold idxB
 by_cases h : l.findIdx p < l.length
 ·rw [if_pos h]
  refine ⟨by omega, ?_⟩
  rw [if_pos (by omega), Int.toNat_natCast]
  refine zaw h ?_ fun j hj => ?_
  ·have := List.findIdx_getElem (w := h)
   simpa [List.getD, h] using this
  ·have := List.not_of_lt_findIdx hj
   have hjl : j < l.length := by omega
   simpa [List.getD, hjl] using this
 ·rw [if_neg h]
  refine ⟨by omega, ?_⟩
  rw [if_neg (by omega), List.find?_eq_none]
  intro x hx hpx
  exact h (List.findIdx_lt_length_of_exists ⟨x, hx, hpx⟩)
theorem XG (f : List Fx) (a : List UInt8) (d : Int) : idxB (fun x => decide (cmpF x ⟨a, d, []⟩ = 0)) f < f.length ∧ qf f a d = if 0 ≤ idxB (fun x => decide (cmpF x ⟨a, d, []⟩ = 0)) f then ((f.getD (idxB (fun x => decide (cmpF x ⟨a, d, []⟩ = 0)) f).toNat Fx.nil).value, true) else ([], false) := by
 obtain ⟨h1, h2⟩ := kx (p := fun x => decide (cmpF x ⟨a, d, []⟩ = 0)) Fx.nil f
 refine ⟨h1, ?_⟩
 have e : (fun x : Fx => decide (x.name = a) && decide (x.date = d)) = fun x => decide (cmpF x ⟨a, d, []⟩ = 0) := by
  funext x
  rw [← Bool.decide_and]; exact decide_eq_decide.2 (@js x ⟨a, d, []⟩).symm
 unfold qf
 rw [e, h2]
 by_cases h : 0 ≤ idxB (fun x => decide (cmpF x ⟨a, d, []⟩ = 0)) f
 ·rw [if_pos h, if_pos h]
 ·rw [if_neg h, if_neg h]
theorem WS (c : List Ch) (a v : List UInt8) (d : Int) : idxB (fun x => decide (cmpC x ⟨a, v, d, false⟩ = 0)) c < c.length ∧ wY c a v d = if 0 ≤ idxB (fun x => decide (cmpC x ⟨a, v, d, false⟩ = 0)) c then (c.getD (idxB (fun x => decide (cmpC x ⟨a, v, d, false⟩ = 0)) c).toNat Ch.nil).first else false := by
 obtain ⟨h1, h2⟩ := kx (p := fun x => decide (cmpC x ⟨a, v, d, false⟩ = 0)) Ch.nil c
 refine ⟨h1, ?_⟩
 have e : (fun x : Ch => decide (x.zj = a) && (decide (x.name = v) && decide (x.date = d))) = fun x => decide (cmpC x ⟨a, v, d, false⟩ = 0) := by
  funext x
  rw [← Bool.decide_and, ← Bool.decide_and]; exact decide_eq_decide.2 (@wi x ⟨a, v, d, false⟩).symm
 unfold wY
 rw [e, h2]
 by_cases h : 0 ≤ idxB (fun x => decide (cmpC x ⟨a, v, d, false⟩ = 0)) c
 ·rw [if_pos h, if_pos h]
 ·rw [if_neg h, if_neg h]
end Go.Nov
end

/- What is known: the reference's copies and places. -/
section
set_option maxRecDepth 100000
open Go Go.Sx Go.Proofs Go.Nov
namespace Go.Proofs.Tryd
attribute [local simp] eqKV eqA eqA0 eqH eqB eqL eqL0
theorem yP {n : Nat} {g : Nat → Nat → AV} {l : List Fx} (h : eqG n 3 g (fxG l)) : newB (.arr n 3 g) := fun j o hj ho => by rw [h j o hj ho]; exact UL l j o ho
theorem yM {n : Nat} {g : Nat → Nat → AV} {l : List Ch} (h : eqG n 4 g (chG l)) : newB (.arr n 4 g) := fun j o hj ho => by rw [h j o hj ho]; exact UW l j o ho
end Go.Proofs.Tryd
end

/- What is known: size; the code's finding. -/
section
set_option maxRecDepth 100000
open Go Go.Sx Go.Proofs Go.Nov
namespace Go.Proofs.Tryd
attribute [local simp] eqKV eqA eqA0 eqH eqB eqL eqL0
noncomputable def K9 : List Go.Sx.Item := [.code (Tryd.f9.body.getD .skip)]
def ZH (f : Fx) : Prop := f.name.length < 2 ^ 49 ∧ f.value.length < 2 ^ 49
def Z4 (c : Ch) : Prop := c.zj.length < 2 ^ 49 ∧ c.name.length < 2 ^ 49
def fitP (p : List Fx × List Ch) : Prop := p.1.length ≤ 1100 ∧ p.2.length ≤ 1100 ∧ (∀ j, j < p.1.length → (p.1.getD j Fx.nil).name.length ≤ 20000 ∧ (p.1.getD j Fx.nil).value.length ≤ 20000) ∧ ∀ j, j < p.2.length → (p.2.getD j Ch.nil).zj.length ≤ 20000 ∧ (p.2.getD j Ch.nil).name.length ≤ 20000
def Vx : Ctr := ctrP true (fun p : List Fx × List Ch => [envA p.1 p.2]) (fun p => p.1.length < 2 ^ 60 ∧ p.2.length < 2 ^ 60 ∧ (∀ j, j < p.1.length → ZH (p.1.getD j Fx.nil)) ∧ ∀ j, j < p.2.length → Z4 (p.2.getD j Ch.nil)) (fun p r => r = false → fitP p) (fun _ (r : Bool) => (.bool r, []))
def SGq (n i : Nat) : KV := [(1, .ptr 0 0), (3, .int .i64 (n : Int)), (4, .int .i64 (i : Int)), (5, .undef)]
def SGq2 (n i : Nat) : KV := [(1, .ptr 0 0), (3, .int .i64 (n : Int)), (4, .undef), (5, .int .i64 (i : Int))]
theorem Jk {O : Nat → Prop} {w0 : World} {Q : AV × Heap → Prop} {Hs : Nat → KV → Heap → Prop} (f : List Fx) (c : List Ch) (n : Nat) (hf : f.length ≤ 1100) (hc : c.length ≤ 1100) (h3 : ∀ j, j < c.length → Z4 (c.getD j Ch.nil)) (hn : n ≤ 1100 * 2 ^ 50) (hnf : ∀ j, j < f.length → (f.getD j Fx.nil).name.length ≤ n ∧ (f.getD j Fx.nil).value.length ≤ n)
  (hq : ∀ r : Bool, (r = false → fitP (f, c)) → Q (.bool r, [])) (kv : KV) (h : Heap) (hle : LeK 0 Tryd.f9.ntmps kv h (SGq2 n 0) (HE f c)) :
  zc Tryd.prog Tryd.f9 O 0 w0 [] Hs (RetR Vx 0 Q) (.code (.loop (lps (inside K9 0) 0).1) :: (lps (inside K9 0) 0).2) (mk Tryd.f9.ntmps kv h) := by
 refine zc.loop (ι := {p : Nat × Nat // p.2 ≤ c.length ∧ n ≤ p.1 ∧ p.1 ≤ (1100 + p.2) * 2 ^ 50 ∧ ∀ j, j < p.2 → (c.getD j Ch.nil).zj.length ≤ p.1 ∧ (c.getD j Ch.nil).name.length ≤ p.1}) (fun p => SGq2 p.1.1 p.1.2) (fun _ => HE f c) (fun p => c.length - p.1.2) ⟨(n, 0), Nat.zero_le _, Nat.le_refl _, by simpa using hn, fun j hj => by simp at hj⟩ 0 hle ?_ (by kernel_rfl)
 rintro ⟨⟨m, i⟩, hil, hnm, hm, hib⟩
 simp only at hil hnm hm hib
 refine zc.run hmix z5 [1, 3, 4, 5] 400 (T := .ite (decide ((↑i : Int) < c.length)) (.side ((0 : Int) ≤ i ∧ (↑i : Int) < c.length) (.side (inR .i64 ((↑m : Int) + (↑(List.length (Ch.zj (List.getD c (Int.toNat (↑i : Int)) Ch.nil))) : Int))) (.side ((0 : Int) ≤ i ∧ (↑i : Int) < c.length) (.side (inR .i64 ((↑m : Int) + (↑(List.length (Ch.zj (List.getD c (Int.toNat (↑i : Int)) Ch.nil))) : Int) + (↑(List.length (Ch.name (List.getD c (Int.toNat (↑i : Int)) Ch.nil))) : Int))) (.side (inR .i64 ((↑i : Int) + (1 : Int))) (.leaf (.back 0 [(1, .ptr 0 0), (3, .int .i64 ((↑m : Int) + (↑(List.length (Ch.zj (List.getD c (Int.toNat (↑i : Int)) Ch.nil))) : Int) + (↑(List.length (Ch.name (List.getD c (Int.toNat (↑i : Int)) Ch.nil))) : Int))), (4, .undef), (5, .int .i64 ((↑i : Int) + (1 : Int)))] [.box [.sl f.length 3 (fxG f), .sl c.length 4 (chG c)]]))))))) (.leaf (.ret [.bool (decide ((20000 : Int) < m))] [.box [.sl f.length 3 (fxG f), .sl c.length 4 (chG c)]]))) (by kernel_rfl) ?_
 simp only [Tree.holds, zd, inR, lo, hi, Int.toNat_natCast]
 refine ⟨fun hlt => ?_, fun hge => ?_⟩
 ·have hlt : i < c.length := by have := of_decide_eq_true hlt; omega
  obtain ⟨g1, g2⟩ := h3 i hlt
  iterate 5 refine ⟨by omega, fun _ => ?_⟩
  rw [if_pos trivial]
  refine ⟨⟨(m + (c.getD i Ch.nil).zj.length + (c.getD i Ch.nil).name.length, i + 1), hlt, by simp only; omega, by simp only; omega, fun j hj => ?_⟩, by show c.length - (i + 1) < c.length - i; omega, by simp [SGq2], by simp [HE, fxS, chS, za], by kernel_rfl, Nat.zero_le _⟩
  simp only at hj ⊢
  rcases Nat.lt_or_ge j i with h1 | h1
  ·have := hib j h1; omega
  ·have : j = i := by omega
   rw [this]; omega
 ·have hge : i = c.length := by have := of_decide_eq_false hge; omega
  subst hge
  refine RetR.scal (hq (decide (20000 < (m : Int))) fun h => ?_) rfl (by simp [resV])
  have h := of_decide_eq_false h
  exact ⟨hf, hc, fun j hj => by have := hnf j hj; simp only; omega, fun j hj => by have := hib j hj; simp only; omega⟩
theorem XP : zb Tryd.prog 9 Vx := by
 refine zg (fn := Tryd.f9) (c := Tryd.f9.body.getD .skip) rfl rfl rfl fun p hp O w0 Q hq => ?_
 obtain ⟨f, c⟩ := p
 obtain ⟨h1, h2, h3, h4⟩ := hp
 simp only at hq h1 h2 h3 h4
 refine zc.run hmix z5 [1, 3, 4, 5] 400 (T := .ite (bif decide ((1100 : Int) < f.length) then true else decide ((1100 : Int) < c.length)) (.leaf (.ret [.bool true] [.box [.sl f.length 3 (fxG f), .sl c.length 4 (chG c)]])) (.leaf (.loop (Prod.fst (lps K9 0)) (Prod.snd (lps K9 0)) [(1, .ptr 0 0), (3, .int .i64 0), (4, .int .i64 0), (5, .undef)] [.box [.sl f.length 3 (fxG f), .sl c.length 4 (chG c)]]))) (by kernel_rfl) ?_
 simp only [Tree.holds, zd]
 refine ⟨fun h => ?_, fun h => ?_⟩
 ·exact RetR.scal (hq true fun h => (by cases h)) rfl (by simp [resV])
 ·have hbig : f.length ≤ 1100 ∧ c.length ≤ 1100 := by
   rw [Bool.cond_eq_ite] at h
   split at h
   ·cases h
   ·rename_i g1
    have g2 := of_decide_eq_false h
    have g1 := of_decide_eq_false (by simpa using g1 : decide (1100 < (f.length : Int)) = false)
    omega
  obtain ⟨hf, hc⟩ := hbig
  refine zc.loop (ι := {p : Nat × Nat // p.2 ≤ f.length ∧ p.1 ≤ p.2 * 2 ^ 50 ∧ ∀ j, j < p.2 → (f.getD j Fx.nil).name.length ≤ p.1 ∧ (f.getD j Fx.nil).value.length ≤ p.1}) (fun p => SGq p.1.1 p.1.2) (fun _ => HE f c) (fun p => f.length - p.1.2) ⟨(0, 0), Nat.zero_le _, by simp, fun j hj => by simp at hj⟩ 0 ?_ ?_ (by kernel_rfl)
  ·exact ⟨by simp [SGq], by simp [HE, fxS, chS, za], by kernel_rfl, Nat.zero_le _⟩
  ·rintro ⟨⟨m, i⟩, hil, hm, hib⟩
   simp only at hil hm hib
   refine zc.run hmix z5 [1, 3, 4, 5] 400 (T := .ite (decide ((↑i : Int) < f.length)) (.side ((0 : Int) ≤ i ∧ (↑i : Int) < f.length) (.side (inR .i64 ((↑m : Int) + (↑(List.length (Fx.name (List.getD f (Int.toNat (↑i : Int)) Fx.nil))) : Int))) (.side ((0 : Int) ≤ i ∧ (↑i : Int) < f.length) (.side (inR .i64 ((↑m : Int) + (↑(List.length (Fx.name (List.getD f (Int.toNat (↑i : Int)) Fx.nil))) : Int) + (↑(List.length (Fx.value (List.getD f (Int.toNat (↑i : Int)) Fx.nil))) : Int))) (.side (inR .i64 ((↑i : Int) + (1 : Int))) (.leaf (.back 0 [(1, .ptr 0 0), (3, .int .i64 ((↑m : Int) + (↑(List.length (Fx.name (List.getD f (Int.toNat (↑i : Int)) Fx.nil))) : Int) + (↑(List.length (Fx.value (List.getD f (Int.toNat (↑i : Int)) Fx.nil))) : Int))), (4, .int .i64 ((↑i : Int) + (1 : Int))), (5, .undef)] [.box [.sl f.length 3 (fxG f), .sl c.length 4 (chG c)]]))))))) (.leaf (.loop (Prod.fst (lps (inside K9 0) 0)) (Prod.snd (lps (inside K9 0) 0)) [(1, .ptr 0 0), (3, .int .i64 m), (4, .int .i64 i), (5, .int .i64 0)] [.box [.sl f.length 3 (fxG f), .sl c.length 4 (chG c)]]))) (by kernel_rfl) ?_
   simp only [Tree.holds, zd, inR, lo, hi, Int.toNat_natCast]
   refine ⟨fun hlt => ?_, fun hge => ?_⟩
   ·have hlt : i < f.length := by have := of_decide_eq_true hlt; omega
    obtain ⟨g1, g2⟩ := h3 i hlt
    iterate 5 refine ⟨by omega, fun _ => ?_⟩
    rw [if_pos trivial]
    refine ⟨⟨(m + (f.getD i Fx.nil).name.length + (f.getD i Fx.nil).value.length, i + 1), hlt, by simp only; omega, fun j hj => ?_⟩, by show f.length - (i + 1) < f.length - i; omega, by simp [SGq], by simp [HE, fxS, chS, za], by kernel_rfl, Nat.zero_le _⟩
    simp only at hj ⊢
    rcases Nat.lt_or_ge j i with h1 | h1
    ·have := hib j h1; omega
    ·have : j = i := by omega
     rw [this]; omega
   ·have hge : i = f.length := by have := of_decide_eq_false hge; omega
    subst hge
    exact Jk f c m hf hc h4 (Nat.le_trans hm (Nat.mul_le_mul_right _ hf)) hib hq _ _ ⟨by simp [SGq2], by simp [HE, fxS, chS, za], by kernel_rfl, Nat.zero_le _⟩
def Qm : Ctr := ctrP true (fun l : List Fx => [fxS l]) (fun l => l.length < 2 ^ 40) (fun _ (_ : Unit) => True) (fun l _ => (.osl 0 3 0 l.length, [.arr l.length 3 (fxG l)]))
def Qn : Ctr := ctrP true (fun l : List Ch => [chS l]) (fun l => l.length < 2 ^ 40) (fun _ (_ : Unit) => True) (fun l _ => (.osl 0 4 0 l.length, [.arr l.length 4 (chG l)]))
theorem ZR : zb Tryd.prog 50 Qm := by
 refine xk (fn := Tryd.f50) (c := Tryd.f50.body.getD .skip) rfl rfl rfl fun l hl O w0 Q hq => ?_
 replace hq := hq () trivial
 refine zc.run hmix z5 [] 400 (T := .all (fun (b : Bool) => 0 < l.length → b = false) fun n => .ite n (.leaf (.ret [.nils] [])) (.side (0 = 0 ∧ 0 ≤ 0 ∧ (0 + l.length) * 40 ≤ 140737488355328) (.leaf (.ret [.osl 0 3 0 (0 + l.length)] [.arr (0 + l.length) 3 (appG 0 (zl 3 []) (fxG l))])))) (by kernel_rfl) ?_
 simp only [Tree.holds, zd]
 refine ⟨⟨false, fun _ => rfl⟩, fun b hb => ⟨fun h => ?_, fun h => ⟨⟨trivial, Nat.le_refl _, by omega⟩, fun _ => ?_⟩⟩⟩
 ·have h0 : l = [] := by
   rcases Nat.eq_zero_or_pos l.length with h0 | h0
   ·exact List.length_eq_zero_iff.1 h0
   ·rw [hb h0] at h; cases h
  subst h0
  refine RetR.scal (.inr ⟨.osl 0 3 0 0, [(3, fxG [])], by simp [upA2, upA1, upA0], ?_⟩) (r := .nils) rfl (by simp [resV])
  exact hq
 ·refine RetR.outs [0] rfl rfl (.inl hq) (fun _ => ⟨?_, ?_⟩) ?_ ?_ rfl
  ·simp [resV, new2, new1, new0, zy]
  ·simp only [List.mem_cons, List.not_mem_nil, or_false, forall_eq]
   exact yP (xr _ _ _ _)
  ·simp [resV, exp2, exp1, exp0, zy, eqA2, eqL1]
  ·exact ⟨⟨by omega, rfl, xr _ _ _ _⟩, trivial⟩
theorem Z0 : zb Tryd.prog 39 Qn := by
 refine xk (fn := Tryd.f39) (c := Tryd.f39.body.getD .skip) rfl rfl rfl fun l hl O w0 Q hq => ?_
 replace hq := hq () trivial
 refine zc.run hmix z5 [] 400 (T := .all (fun (b : Bool) => 0 < l.length → b = false) fun n => .ite n (.leaf (.ret [.nils] [])) (.side (0 = 0 ∧ 0 ≤ 0 ∧ (0 + l.length) * 48 ≤ 140737488355328) (.leaf (.ret [.osl 0 4 0 (0 + l.length)] [.arr (0 + l.length) 4 (appG 0 (zl 4 []) (chG l))])))) (by kernel_rfl) ?_
 simp only [Tree.holds, zd]
 refine ⟨⟨false, fun _ => rfl⟩, fun b hb => ⟨fun h => ?_, fun h => ⟨⟨trivial, Nat.le_refl _, by omega⟩, fun _ => ?_⟩⟩⟩
 ·have h0 : l = [] := by
   rcases Nat.eq_zero_or_pos l.length with h0 | h0
   ·exact List.length_eq_zero_iff.1 h0
   ·rw [hb h0] at h; cases h
  subst h0
  refine RetR.scal (.inr ⟨.osl 0 4 0 0, [(4, chG [])], by simp [upA2, upA1, upA0], ?_⟩) (r := .nils) rfl (by simp [resV])
  exact hq
 ·refine RetR.outs [0] rfl rfl (.inl hq) (fun _ => ⟨?_, ?_⟩) ?_ ?_ rfl
  ·simp [resV, new2, new1, new0, zy]
  ·simp only [List.mem_cons, List.not_mem_nil, or_false, forall_eq]
   exact yM (xr _ _ _ _)
  ·simp [resV, exp2, exp1, exp0, zy, eqA2, eqL1]
  ·exact ⟨⟨by omega, rfl, xr _ _ _ _⟩, trivial⟩
def HIdF (x : Fx) : Heap := [.box [.fn 38 [] []], .box [.str x.name, .int .i64 x.date, .str x.value]]
def HIdC (x : Ch) : Heap := [.box [.fn 48 [] []], .box [.str x.zj, .str x.name, .int .i64 x.date, .bool x.first]]
def zbn : Ctr := ctrT false false (fun p : Fx × Fx => [p.1.av, .ptr 0 0, .ptr 1 0]) (fun p => HIdF p.2) (fun _ => True) (fun p r => r = decide (cmpF p.1 p.2 = 0)) (fun p (r : Bool) => (.bool r, HIdF p.2))
def zby : Ctr := ctrT false false (fun p : Ch × Ch => [p.1.av, .ptr 0 0, .ptr 1 0]) (fun p => HIdC p.2) (fun _ => True) (fun p r => r = decide (cmpC p.1 p.2 = 0)) (fun p (r : Bool) => (.bool r, HIdC p.2))
noncomputable def GI1 : Nat → Option Ctr := fun f => if f = 38 then some (xy) else if f = 48 then some (xJ) else none
theorem Uo : ∀ g c, GI1 g = some c → zb Tryd.prog g c := okIf kN (okIf xd (zp))
theorem zal : zb Tryd.prog 67 zbn := by
 refine zB (fn := Tryd.f67) (c := Tryd.f67.body.getD .skip) rfl rfl rfl (fun h => by cases h) fun p hp O w0 σ0 Q hl0 hq => ?_
 obtain ⟨⟨a, d, v⟩, ⟨b, e, u⟩⟩ := p
 replace hq := hq _ rfl
 simp only at hq
 refine zc.run hmix Uo [] 400 (T := .ex (fun (x : Fx × Fx) => eqL [AV.agg [AV.str a, AV.int .i64 d, AV.str v], AV.agg [AV.str b, AV.int .i64 e, AV.str u]] [AV.agg [AV.str x.1.name, AV.int .i64 x.1.date, AV.str x.1.value], AV.agg [AV.str x.2.name, AV.int .i64 x.2.date, AV.str x.2.value]] ∧ True) fun n => .all (fun (r : Int) => r = cmpF n.1 n.2) fun n => .leaf (.ret [.bool (decide (n = 0))] [.box [.fn 38 [] []], .box [.str b, .int .i64 e, .str u], .box [.str a, .int .i64 d, .str v]])) (by kernel_rfl) ?_
 simp only [Tree.holds, zd]
 refine ⟨(⟨a, d, v⟩, ⟨b, e, u⟩), ⟨by simp, trivial⟩, ⟨_, rfl⟩, ?_⟩
 rintro _ rfl
 exact RetR.keep [0, 1] rfl rfl (by show ∀ j, j < 2 → _; decide) rfl hq (by simp [resV, exp2, exp1, exp0, ren0, eqA2]) (by simp [expH, expB, exp1, exp0, ren0, HIdF]) rfl
theorem zbf : zb Tryd.prog 70 zby := by
 refine zB (fn := Tryd.f70) (c := Tryd.f70.body.getD .skip) rfl rfl rfl (fun h => by cases h) fun p hp O w0 σ0 Q hl0 hq => ?_
 obtain ⟨⟨a, v, d, x⟩, ⟨b, u, e, y⟩⟩ := p
 replace hq := hq _ rfl
 simp only at hq
 refine zc.run hmix Uo [] 400 (T := .ex (fun (x_1 : Ch × Ch) => eqL [AV.agg [AV.str a, AV.str v, AV.int .i64 d, AV.bool x], AV.agg [AV.str b, AV.str u, AV.int .i64 e, AV.bool y]] [AV.agg [AV.str x_1.1.zj, AV.str x_1.1.name, AV.int .i64 x_1.1.date, AV.bool x_1.1.first], AV.agg [AV.str x_1.2.zj, AV.str x_1.2.name, AV.int .i64 x_1.2.date, AV.bool x_1.2.first]] ∧ True) fun n => .all (fun (r : Int) => r = cmpC n.1 n.2) fun n => .leaf (.ret [.bool (decide (n = 0))] [.box [.fn 48 [] []], .box [.str b, .str u, .int .i64 e, .bool y], .box [.str a, .str v, .int .i64 d, .bool x]])) (by kernel_rfl) ?_
 simp only [Tree.holds, zd]
 refine ⟨(⟨a, v, d, x⟩, ⟨b, u, e, y⟩), ⟨by simp, trivial⟩, ⟨_, rfl⟩, ?_⟩
 rintro _ rfl
 exact RetR.keep [0, 1] rfl rfl (by show ∀ j, j < 2 → _; decide) rfl hq (by simp [resV, exp2, exp1, exp0, ren0, eqA2]) (by simp [expH, expB, exp1, exp0, ren0, HIdC]) rfl
def SIdF (l : List Fx) (i : Nat) : KV := [(0, fxS l), (1, .fn 67 [] [.ptr 0 0, .ptr 1 0]), (7, .int .i64 (l.length : Int)), (8, .int .i64 (i : Int))]
def SIdC (l : List Ch) (i : Nat) : KV := [(0, chS l), (1, .fn 70 [] [.ptr 0 0, .ptr 1 0]), (7, .int .i64 (l.length : Int)), (8, .int .i64 (i : Int))]
def YP : Ctr := ctrT false false (fun p : List Fx × Fx => [fxS p.1, .fn 67 [] [.ptr 0 0, .ptr 1 0]]) (fun p => HIdF p.2) (fun p => p.1.length < 2 ^ 40) (fun p r => r = idxB (fun x => decide (cmpF x p.2 = 0)) p.1) (fun p (r : Int) => (.int .i64 r, HIdF p.2))
def U5 : Ctr := ctrT false false (fun p : List Ch × Ch => [chS p.1, .fn 70 [] [.ptr 0 0, .ptr 1 0]]) (fun p => HIdC p.2) (fun p => p.1.length < 2 ^ 40) (fun p r => r = idxB (fun x => decide (cmpC x p.2 = 0)) p.1) (fun p (r : Int) => (.int .i64 r, HIdC p.2))
noncomputable def GI2 : Nat → Option Ctr := fun f => if f = 67 then some (zbn) else if f = 70 then some (zby) else none
theorem QP : ∀ g c, GI2 g = some c → zb Tryd.prog g c := okIf zal (okIf zbf (zp))
theorem zag : zb Tryd.prog 66 YP := by
 refine zB (fn := Tryd.f66) (c := Tryd.f66.body.getD .skip) rfl rfl rfl (fun h => by cases h) fun p hl O w0 σ0 Q hl0 hq => ?_
 obtain ⟨l, x⟩ := p
 replace hq := hq _ rfl
 simp only at hq hl
 refine zc.run hmix QP [0, 1, 7, 8] 400 (T := .leaf (.loop (Prod.fst (lps K66 0)) (Prod.snd (lps K66 0)) [(0, .sl l.length 3 (fxG l)), (1, .fn 67 [] [.ptr 0 0, .ptr 1 0]), (7, .int .i64 l.length), (8, .int .i64 0)] [.box [.fn 38 [] []], .box [.str x.name, .int .i64 x.date, .str x.value]])) (by kernel_rfl) ?_
 simp only [Tree.holds, zd]
 have fin : ∀ (i : Int) (h : Heap), i = idxB (fun y => decide (cmpF y x = 0)) l → h = HIdF x → RetR YP 2 Q [.int .i64 i] h := by
  intro i h hi2 hh
  subst hh
  rw [← hi2] at hq
  exact RetR.keep [0, 1] rfl rfl (by show ∀ j, j < 2 → _; decide) rfl hq (by simp [resV, exp2, exp1, exp0, ren0, eqA2]) (by simp [expH, expB, exp1, exp0, ren0, HIdF]) rfl
 refine zc.loop (ι := {i : Nat // i ≤ l.length ∧ ∀ j, j < i → decide (cmpF (l.getD j Fx.nil) x = 0) = false}) (fun i => SIdF l i.1) (fun _ => HIdF x) (fun i => l.length - i.1) ⟨0, Nat.zero_le _, fun j hj => by omega⟩ 0 ?_ ?_ (by kernel_rfl)
 ·exact ⟨by simp [SIdF, fxS, za], by simp [HIdF], by kernel_rfl, Nat.le_refl _⟩
 ·rintro ⟨i, hil, hib⟩
  refine zc.run hmix QP [0, 1, 7, 8] 400 (T := .ite (decide ((↑i : Int) < l.length)) (.side ((0 : Int) ≤ i ∧ (↑i : Int) < l.length) (.ex (fun (x_1 : Fx × Fx) => eqL [AV.agg [AV.str (Fx.name (List.getD l (Int.toNat (↑i : Int)) Fx.nil)), AV.int .i64 (Fx.date (List.getD l (Int.toNat (↑i : Int)) Fx.nil)), AV.str (Fx.value (List.getD l (Int.toNat (↑i : Int)) Fx.nil))], AV.ptr 0 0, AV.ptr 1 0] [AV.agg [AV.str x_1.1.name, AV.int .i64 x_1.1.date, AV.str x_1.1.value], AV.ptr 0 0, AV.ptr 1 0] ∧ eqH [.box [AV.fn 38 [] []], .box [AV.str x.name, AV.int .i64 x.date, AV.str x.value]] [.box [AV.fn 38 [] []], .box [AV.str x_1.2.name, AV.int .i64 x_1.2.date, AV.str x_1.2.value]] ∧ 2 = 2 ∧ True) fun n => .all (fun (r : Bool) => r = decide (cmpF n.1 n.2 = 0)) fun n_1 => .ite n_1 (.leaf (.ret [.int .i64 i] [.box [.fn 38 [] []], .box [.str n.2.name, .int .i64 n.2.date, .str n.2.value]])) (.side (inR .i64 ((↑i : Int) + (1 : Int))) (.leaf (.back 0 [(0, .sl l.length 3 (fxG l)), (1, .fn 67 [] [.ptr 0 0, .ptr 1 0]), (7, .int .i64 l.length), (8, .int .i64 ((↑i : Int) + (1 : Int)))] [.box [.fn 38 [] []], .box [.str n.2.name, .int .i64 n.2.date, .str n.2.value]]))))) (.leaf (.ret [.int .i64 (-1 : Int)] [.box [.fn 38 [] []], .box [.str x.name, .int .i64 x.date, .str x.value]]))) (by kernel_rfl) ?_
  simp only [Tree.holds, zd, inR, lo, hi, Int.toNat_natCast]
  refine ⟨fun hlt => ?_, fun hge => ?_⟩
  ·have hlt : i < l.length := by have := of_decide_eq_true hlt; omega
   refine ⟨by omega, fun _ => ⟨(l.getD i Fx.nil, x), ⟨by simp, by simp, trivial, trivial⟩, ⟨_, rfl⟩, ?_⟩⟩
   rintro _ rfl
   refine ⟨fun h => ?_, fun h => ⟨by omega, fun _ => ?_⟩⟩
   ·exact fin _ _ (yN hlt h hib).symm rfl
   ·rw [if_pos trivial]
    refine ⟨⟨i + 1, hlt, fun j hj => ?_⟩, by show l.length - (i + 1) < l.length - i; omega, by simp [SIdF, fxS, za], by simp [HIdF], by kernel_rfl, Nat.le_refl _⟩
    rcases Nat.lt_or_ge j i with h1 | h1
    ·exact hib j h1
    ·have : j = i := by omega
     rw [this]; exact h
  ·have hge : i = l.length := by have := of_decide_eq_false hge; omega
   subst hge
   exact fin _ _ (ku (p := fun y => decide (cmpF y x = 0)) hib).symm rfl
theorem za0 : zb Tryd.prog 68 U5 := by
 refine zB (fn := Tryd.f68) (c := Tryd.f68.body.getD .skip) rfl rfl rfl (fun h => by cases h) fun p hl O w0 σ0 Q hl0 hq => ?_
 obtain ⟨l, x⟩ := p
 replace hq := hq _ rfl
 simp only at hq hl
 refine zc.run hmix QP [0, 1, 7, 8] 400 (T := .leaf (.loop (Prod.fst (lps K68 0)) (Prod.snd (lps K68 0)) [(0, .sl l.length 4 (chG l)), (1, .fn 70 [] [.ptr 0 0, .ptr 1 0]), (7, .int .i64 l.length), (8, .int .i64 0)] [.box [.fn 48 [] []], .box [.str x.zj, .str x.name, .int .i64 x.date, .bool x.first]])) (by kernel_rfl) ?_
 simp only [Tree.holds, zd]
 have fin : ∀ (i : Int) (h : Heap), i = idxB (fun y => decide (cmpC y x = 0)) l → h = HIdC x → RetR U5 2 Q [.int .i64 i] h := by
  intro i h hi2 hh
  subst hh
  rw [← hi2] at hq
  exact RetR.keep [0, 1] rfl rfl (by show ∀ j, j < 2 → _; decide) rfl hq (by simp [resV, exp2, exp1, exp0, ren0, eqA2]) (by simp [expH, expB, exp1, exp0, ren0, HIdC]) rfl
 refine zc.loop (ι := {i : Nat // i ≤ l.length ∧ ∀ j, j < i → decide (cmpC (l.getD j Ch.nil) x = 0) = false}) (fun i => SIdC l i.1) (fun _ => HIdC x) (fun i => l.length - i.1) ⟨0, Nat.zero_le _, fun j hj => by omega⟩ 0 ?_ ?_ (by kernel_rfl)
 ·exact ⟨by simp [SIdC, chS, za], by simp [HIdC], by kernel_rfl, Nat.le_refl _⟩
 ·rintro ⟨i, hil, hib⟩
  refine zc.run hmix QP [0, 1, 7, 8] 400 (T := .ite (decide ((↑i : Int) < l.length)) (.side ((0 : Int) ≤ i ∧ (↑i : Int) < l.length) (.ex (fun (x_1 : Ch × Ch) => eqL [AV.agg [AV.str (Ch.zj (List.getD l (Int.toNat (↑i : Int)) Ch.nil)), AV.str (Ch.name (List.getD l (Int.toNat (↑i : Int)) Ch.nil)), AV.int .i64 (Ch.date (List.getD l (Int.toNat (↑i : Int)) Ch.nil)), AV.bool (Ch.first (List.getD l (Int.toNat (↑i : Int)) Ch.nil))], AV.ptr 0 0, AV.ptr 1 0] [AV.agg [AV.str x_1.1.zj, AV.str x_1.1.name, AV.int .i64 x_1.1.date, AV.bool x_1.1.first], AV.ptr 0 0, AV.ptr 1 0] ∧ eqH [.box [AV.fn 48 [] []], .box [AV.str x.zj, AV.str x.name, AV.int .i64 x.date, AV.bool x.first]] [.box [AV.fn 48 [] []], .box [AV.str x_1.2.zj, AV.str x_1.2.name, AV.int .i64 x_1.2.date, AV.bool x_1.2.first]] ∧ 2 = 2 ∧ True) fun n => .all (fun (r : Bool) => r = decide (cmpC n.1 n.2 = 0)) fun n_1 => .ite n_1 (.leaf (.ret [.int .i64 i] [.box [.fn 48 [] []], .box [.str n.2.zj, .str n.2.name, .int .i64 n.2.date, .bool n.2.first]])) (.side (inR .i64 ((↑i : Int) + (1 : Int))) (.leaf (.back 0 [(0, .sl l.length 4 (chG l)), (1, .fn 70 [] [.ptr 0 0, .ptr 1 0]), (7, .int .i64 l.length), (8, .int .i64 ((↑i : Int) + (1 : Int)))] [.box [.fn 48 [] []], .box [.str n.2.zj, .str n.2.name, .int .i64 n.2.date, .bool n.2.first]]))))) (.leaf (.ret [.int .i64 (-1 : Int)] [.box [.fn 48 [] []], .box [.str x.zj, .str x.name, .int .i64 x.date, .bool x.first]]))) (by kernel_rfl) ?_
  simp only [Tree.holds, zd, inR, lo, hi, Int.toNat_natCast]
  refine ⟨fun hlt => ?_, fun hge => ?_⟩
  ·have hlt : i < l.length := by have := of_decide_eq_true hlt; omega
   refine ⟨by omega, fun _ => ⟨(l.getD i Ch.nil, x), ⟨by simp, by simp, trivial, trivial⟩, ⟨_, rfl⟩, ?_⟩⟩
   rintro _ rfl
   refine ⟨fun h => ?_, fun h => ⟨by omega, fun _ => ?_⟩⟩
   ·exact fin _ _ (yN hlt h hib).symm rfl
   ·rw [if_pos trivial]
    refine ⟨⟨i + 1, hlt, fun j hj => ?_⟩, by show l.length - (i + 1) < l.length - i; omega, by simp [SIdC, chS, za], by simp [HIdC], by kernel_rfl, Nat.le_refl _⟩
    rcases Nat.lt_or_ge j i with h1 | h1
    ·exact hib j h1
    ·have : j = i := by omega
     rw [this]; exact h
  ·have hge : i = l.length := by have := of_decide_eq_false hge; omega
   subst hge
   exact fin _ _ (ku (p := fun y => decide (cmpC y x = 0)) hib).symm rfl
def Q5 : Ctr := ctrP true (fun p : List Fx × Fx => [fxS p.1, p.2.av, .fn 38 [] []]) (fun p => p.1.length < 2 ^ 40) (fun p r => r = idxB (fun x => decide (cmpF x p.2 = 0)) p.1) (fun _ (r : Int) => (.int .i64 r, []))
def QZ : Ctr := ctrP true (fun p : List Ch × Ch => [chS p.1, p.2.av, .fn 48 [] []]) (fun p => p.1.length < 2 ^ 40) (fun p r => r = idxB (fun x => decide (cmpC x p.2 = 0)) p.1) (fun _ (r : Int) => (.int .i64 r, []))
noncomputable def GI3 : Nat → Option Ctr := fun f => if f = 66 then some (YP) else if f = 68 then some (U5) else none
theorem YW : ∀ g c, GI3 g = some c → zb Tryd.prog g c := okIf zag (okIf za0 (zp))
theorem ZF : zb Tryd.prog 41 Q5 := by
 refine zg (fn := Tryd.f41) (c := Tryd.f41.body.getD .skip) rfl rfl rfl fun p hp O w0 Q hq => ?_
 obtain ⟨l, ⟨a, d, v⟩⟩ := p
 replace hq := hq _ rfl
 simp only at hq hp
 refine zc.run hmix YW [] 400 (T := .ex (fun (x : List Fx × Fx) => eqL [AV.sl l.length 3 (fxG l), AV.fn 67 [] [AV.ptr 0 0, AV.ptr 1 0]] [AV.sl x.1.length 3 (fxG x.1), AV.fn 67 [] [AV.ptr 0 0, AV.ptr 1 0]] ∧ eqH [.box [AV.fn 38 [] []], .box [AV.str a, AV.int .i64 d, AV.str v]] [.box [AV.fn 38 [] []], .box [AV.str x.2.name, AV.int .i64 x.2.date, AV.str x.2.value]] ∧ 2 = 2 ∧ x.1.length < 1099511627776) fun n => .all (fun (r : Int) => r = idxB (fun (x : Fx) => decide (cmpF x n.2 = 0)) n.1) fun n_1 => .leaf (.ret [.int .i64 n_1] [.box [.str n.2.name, .int .i64 n.2.date, .str n.2.value], .box [.fn 38 [] []]])) (by kernel_rfl) ?_
 simp only [Tree.holds, zd]
 refine ⟨(l, ⟨a, d, v⟩), ⟨by simp [za], by simp, trivial, hp⟩, ⟨_, rfl⟩, ?_⟩
 rintro _ rfl
 exact RetR.scal hq rfl (by simp [resV])
theorem ZM : zb Tryd.prog 51 QZ := by
 refine zg (fn := Tryd.f51) (c := Tryd.f51.body.getD .skip) rfl rfl rfl fun p hp O w0 Q hq => ?_
 obtain ⟨l, ⟨a, v, d, b⟩⟩ := p
 replace hq := hq _ rfl
 simp only at hq hp
 refine zc.run hmix YW [] 400 (T := .ex (fun (x : List Ch × Ch) => eqL [AV.sl l.length 4 (chG l), AV.fn 70 [] [AV.ptr 0 0, AV.ptr 1 0]] [AV.sl x.1.length 4 (chG x.1), AV.fn 70 [] [AV.ptr 0 0, AV.ptr 1 0]] ∧ eqH [.box [AV.fn 48 [] []], .box [AV.str a, AV.str v, AV.int .i64 d, AV.bool b]] [.box [AV.fn 48 [] []], .box [AV.str x.2.zj, AV.str x.2.name, AV.int .i64 x.2.date, AV.bool x.2.first]] ∧ 2 = 2 ∧ x.1.length < 1099511627776) fun n => .all (fun (r : Int) => r = idxB (fun (x : Ch) => decide (cmpC x n.2 = 0)) n.1) fun n_1 => .leaf (.ret [.int .i64 n_1] [.box [.str n.2.zj, .str n.2.name, .int .i64 n.2.date, .bool n.2.first], .box [.fn 48 [] []]])) (by kernel_rfl) ?_
 simp only [Tree.holds, zd]
 refine ⟨(l, ⟨a, v, d, b⟩), ⟨by simp [za], by simp, trivial, hp⟩, ⟨_, rfl⟩, ?_⟩
 rintro _ rfl
 exact RetR.scal hq rfl (by simp [resV])
noncomputable def GI4 : Nat → Option Ctr := fun f => if f = 41 then some (Q5) else if f = 51 then some (QZ) else none
theorem Y6 : ∀ g c, GI4 g = some c → zb Tryd.prog g c := okIf ZF (okIf ZM (zp))
theorem Kk : zb Tryd.prog 20 XV := by
 refine zg (fn := Tryd.f20) (c := Tryd.f20.body.getD .skip) rfl rfl rfl fun p hp O w0 Q hq => ?_
 obtain ⟨⟨f, c⟩, ⟨a, d⟩⟩ := p
 replace hq := hq _ rfl
 simp only at hq hp
 refine zc.run hmix Y6 [] 400 (T := .ex (fun (x : List Fx × Fx) => eqL [AV.sl f.length 3 (fxG f), AV.agg [AV.str a, AV.int .i64 d, AV.str (Array.toList #[])], AV.fn 38 [] []] [AV.sl x.1.length 3 (fxG x.1), AV.agg [AV.str x.2.name, AV.int .i64 x.2.date, AV.str x.2.value], AV.fn 38 [] []] ∧ x.1.length < 1099511627776) fun n => .all (fun (r : Int) => r = idxB (fun (x : Fx) => decide (cmpF x n.2 = 0)) n.1) fun n => .ite (decide (n < 0)) (.leaf (.ret [.str (Array.toList #[]), .bool false] [.box [.sl f.length 3 (fxG f), .sl c.length 4 (chG c)]])) (.side ((0 : Int) ≤ n ∧ n < (↑f.length : Int)) (.leaf (.ret [.str (Fx.value (List.getD f (Int.toNat n) Fx.nil)), .bool true] [.box [.sl f.length 3 (fxG f), .sl c.length 4 (chG c)]])))) (by kernel_rfl) ?_
 simp only [Tree.holds, zd]
 refine ⟨(f, ⟨a, d, []⟩), ⟨by simp [za], hp⟩, ⟨_, rfl⟩, ?_⟩
 rintro _ rfl
 obtain ⟨hlt, hr⟩ := XG f a d
 simp only at hq ⊢
 refine ⟨fun h => ?_, fun h => ?_⟩
 ·rw [hr, if_neg (by have := of_decide_eq_true h; omega)] at hq
  exact RetR.scal hq rfl (by simp [resV])
 ·have h := of_decide_eq_false h
  refine ⟨⟨by omega, hlt⟩, fun _ => ?_⟩
  rw [hr, if_pos (by omega)] at hq
  exact RetR.scal hq rfl (by simp [resV])
theorem KW : zb Tryd.prog 24 Kz := by
 refine zg (fn := Tryd.f24) (c := Tryd.f24.body.getD .skip) rfl rfl rfl fun p hp O w0 Q hq => ?_
 obtain ⟨⟨f, c⟩, ⟨a, v, d⟩⟩ := p
 replace hq := hq _ rfl
 simp only at hq hp
 refine zc.run hmix Y6 [] 400 (T := .ex (fun (x : List Ch × Ch) => eqL [AV.sl c.length 4 (chG c), AV.agg [AV.str a, AV.str v, AV.int .i64 d, AV.bool false], AV.fn 48 [] []] [AV.sl x.1.length 4 (chG x.1), AV.agg [AV.str x.2.zj, AV.str x.2.name, AV.int .i64 x.2.date, AV.bool x.2.first], AV.fn 48 [] []] ∧ x.1.length < 1099511627776) fun n => .all (fun (r : Int) => r = idxB (fun (x : Ch) => decide (cmpC x n.2 = 0)) n.1) fun n => .side (decide ((0 : Int) ≤ n) = true → (0 : Int) ≤ n ∧ n < (↑c.length : Int)) (.leaf (.ret [.bool (bif decide ((0 : Int) ≤ n) then Ch.first (List.getD c (Int.toNat n) Ch.nil) else false)] [.box [.sl f.length 3 (fxG f), .sl c.length 4 (chG c)]]))) (by kernel_rfl) ?_
 simp only [Tree.holds, zd]
 refine ⟨(c, ⟨a, v, d, false⟩), ⟨by simp [za], hp⟩, ⟨_, rfl⟩, ?_⟩
 rintro _ rfl
 obtain ⟨hlt, hr⟩ := WS c a v d
 simp only at hq ⊢
 refine ⟨fun h => ⟨of_decide_eq_true h, hlt⟩, fun _ => ?_⟩
 refine RetR.scal hq rfl ?_
 rw [hr]
 simp only [resV]
 by_cases h : 0 ≤ idxB (fun x => decide (cmpC x ⟨a, v, d, false⟩ = 0)) c
 ·rw [decide_eq_true h, if_pos h]; rfl
 ·rw [decide_eq_false h, if_neg h]; rfl
end Go.Proofs.Tryd
end

/- Expressions: their size. -/
section
set_option maxRecDepth 100000
open Go Go.Sx Go.Proofs Go.Nov
namespace Go.Proofs.Tryd
attribute [local simp] eqKV eqA eqA0 eqH eqB eqL eqL0
noncomputable def K29 : List Go.Sx.Item := [.code (Tryd.f29.body.getD .skip)]
theorem uW {X R : Type} {P : Program} {g : Nat} {fresh : Bool} {inp : X → List AV} {pre : X → Prop} {post : X → R → Prop} {out : X → R → AV × Heap} (μ : X → Nat)
  (step : ∀ n, zb P g (ctrP fresh inp (fun x => μ x < n ∧ pre x) post out) → zb P g (ctrP fresh inp (fun x => μ x < n + 1 ∧ pre x) post out)) : zb P g (ctrP fresh inp pre post out) := by
 have all : ∀ n, zb P g (ctrP fresh inp (fun x => μ x < n ∧ pre x) post out) := by
  intro n
  induction n with
  | zero =>
   intro args hc Q hq _
   simp only [ctrP] at hq
   split at hq
   ·obtain ⟨x, ⟨_, h, _⟩, _⟩ := hq
    exact absurd h (Nat.not_lt_zero _)
   ·exact hq.elim
  | succ n ih => exact step n ih
 intro args hc Q hq hf
 match hc, hq, hf with
 | [], hq, hf =>
  obtain ⟨x, ⟨h1, h2⟩, h3⟩ := hq
  exact all (μ x + 1) args [] Q ⟨x, ⟨h1, Nat.lt_succ_self _, h2⟩, h3⟩ hf
 | _ :: _, hq, _ => exact hq.elim
def Ks (n : Nat) : Ctr := ctrP true (fun x : Ex => [x.exA]) (fun x => x.size < n ∧ x.size < 2 ^ 62) (fun x r => r = x.size) (fun _ (r : Nat) => (.int .i64 (r : Int), []))
def GSz (g n : Nat) : Nat → Option Ctr := fun f => if f = g then some (Ks n) else none
theorem Uv {g n : Nat} (h : zb Tryd.prog g (Ks n)) : ∀ f c, GSz g n f = some c → zb Tryd.prog f c := by
 intro f c hf
 simp only [GSz] at hf
 split at hf
 ·rename_i hg; subst hg; cases hf; exact h
 ·cases hf
theorem yG {x : Ex} {k d : Int} {r m : List UInt8} {l : Nat} {g : Nat → Nat → AV} (hk : k = x.kind) (hr : r = x.rat) (hm : m = x.name) (hd : d = x.date) (hl : l = x.sub.length) (hg : eqG x.sub.length 5 g (Ex.exG x.sub)) : eqL [.agg [.int .u8 k, .str r, .str m, .int .i64 d, .sl l 5 g]] [x.exA] := by
 subst hk; subst hr; subst hm; subst hd; subst hl
 exact ⟨⟨⟨rfl, rfl⟩, rfl, rfl, ⟨rfl, rfl⟩, ⟨rfl, rfl, hg⟩, trivial⟩, trivial⟩
def SSz (s : List Ex) (c i : Nat) : KV := [(3, .int .i64 (c : Int)), (7, Ex.exS s), (8, .int .i64 (s.length : Int)), (9, .int .i64 (i : Int))]
theorem KZ (n : Nat) (ih : zb Tryd.prog 29 (Ks n)) : zb Tryd.prog 29 (Ks (n + 1)) := by
 refine zg (fn := Tryd.f29) (c := Tryd.f29.body.getD .skip) rfl rfl rfl fun x hx O w0 Q hq => ?_
 replace hq := hq _ rfl
 obtain ⟨hxn, hxs⟩ := hx
 rw [Ex.size_eq] at hxn hxs hq
 obtain ⟨k, r, m, d, s⟩ := x
 simp only [Ex.sub] at hxn hxs hq
 refine zc.run hmix (Uv ih) [3, 7, 8, 9] 400 (T := .leaf (.loop (Prod.fst (lps K29 0)) (Prod.snd (lps K29 0)) [(3, .int .i64 1), (7, .sl s.length 5 (Ex.exG s)), (8, .int .i64 s.length), (9, .int .i64 0)] [.box [.int .u8 k, .str r, .str m, .int .i64 d, .sl s.length 5 (Ex.exG s)]])) (by kernel_rfl) ?_
 simp only [Tree.holds, zd]
 have hlen := Ex.jS s
 refine zc.loop (ι := {i : Nat // i ≤ s.length}) (fun i => SSz s (1 + Ex.qt (s.take i.1)) i.1) (fun _ => []) (fun i => s.length - i.1) ⟨0, Nat.zero_le _⟩ 0 ?_ ?_ (by kernel_rfl)
 ·exact ⟨by simp [SSz, Ex.qt, Ex.exS, za], by simp, by kernel_rfl, Nat.zero_le _⟩
 ·rintro ⟨i, hil⟩
  have hle := Ex.kI s i
  obtain ⟨c, hc⟩ : ∃ c, 1 + Ex.qt (s.take i) = c := ⟨_, rfl⟩
  simp only [hc]
  refine zc.run hmix (Uv ih) [3, 7, 8, 9] 400 (T := .ite (decide ((↑i : Int) < s.length)) (.side ((0 : Int) ≤ i ∧ (↑i : Int) < s.length) (.ex (fun (x : Ex) => eqL [AV.agg [AV.int .u8 (Ex.kind (List.getD s (Int.toNat (↑i : Int)) Ex.nil)), AV.str (Ex.rat (List.getD s (Int.toNat (↑i : Int)) Ex.nil)), AV.str (Ex.name (List.getD s (Int.toNat (↑i : Int)) Ex.nil)), AV.int .i64 (Ex.date (List.getD s (Int.toNat (↑i : Int)) Ex.nil)), AV.sl (List.length (Ex.sub (List.getD s (Int.toNat (↑i : Int)) Ex.nil))) 5 (Ex.deep (List.getD s (Int.toNat (↑i : Int)) Ex.nil))]] [AV.agg [AV.int .u8 x.kind, AV.str x.rat, AV.str x.name, AV.int .i64 x.date, AV.sl x.sub.length 5 (Ex.exG x.sub)]] ∧ Ex.size x < n ∧ Ex.size x < 4611686018427387904) fun n => .all (fun (r : Nat) => r = Ex.size n) fun n => .side (inR .i64 ((↑c : Int) + n)) (.side (inR .i64 ((↑i : Int) + (1 : Int))) (.leaf (.back 0 [(3, .int .i64 ((↑c : Int) + n)), (7, .sl s.length 5 (Ex.exG s)), (8, .int .i64 s.length), (9, .int .i64 ((↑i : Int) + (1 : Int)))] [.box [.int .u8 (Ex.kind (List.getD s (Int.toNat (↑i : Int)) Ex.nil)), .str (Ex.rat (List.getD s (Int.toNat (↑i : Int)) Ex.nil)), .str (Ex.name (List.getD s (Int.toNat (↑i : Int)) Ex.nil)), .int .i64 (Ex.date (List.getD s (Int.toNat (↑i : Int)) Ex.nil)), .sl (List.length (Ex.sub (List.getD s (Int.toNat (↑i : Int)) Ex.nil))) 5 (Ex.deep (List.getD s (Int.toNat (↑i : Int)) Ex.nil))]]))))) (.leaf (.ret [.int .i64 c] []))) (by kernel_rfl) ?_
  simp only [Tree.holds, zd, inR, lo, hi, Int.toNat_natCast]
  refine ⟨fun hlt => ?_, fun hge => ?_⟩
  ·have hlt : i < s.length := by have := of_decide_eq_true hlt; omega
   have hg := Ex.qj hlt
   have ht := Ex.WQ s i hlt
   have hle2 := Ex.kI s (i + 1)
   refine ⟨by omega, fun _ => ⟨s.getD i Ex.nil, ⟨yG rfl rfl rfl rfl rfl (Ex.vA _), by omega, by omega⟩, ⟨_, rfl⟩, ?_⟩⟩
   rintro _ rfl
   refine ⟨by omega, fun _ => ⟨by omega, fun _ => ?_⟩⟩
   rw [if_pos trivial]
   refine ⟨⟨i + 1, hlt⟩, by show s.length - (i + 1) < s.length - i; omega, ?_, by simp, by kernel_rfl, Nat.zero_le _⟩
   simp [SSz, Ex.exS, za, ht]; omega
  ·have hge : i = s.length := by have := of_decide_eq_false hge; omega
   subst hge
   rw [List.take_length] at hc
   rw [hc] at hq
   exact RetR.scal hq rfl (by simp [resV])
def zbc : Ctr := ctrP true (fun x : Ex => [x.exA]) (fun x => x.size < 2 ^ 62) (fun x r => r = x.size) (fun _ (r : Nat) => (.int .i64 (r : Int), []))
theorem zay : zb Tryd.prog 29 zbc := uW Ex.size KZ
end Go.Proofs.Tryd
end

/- Expressions: depth, strings, sorts. -/
section
namespace Go.Nov
open Go.Sx
def ji (k : Int) (r n : List UInt8) (d : Int) (l : Nat) : Bool :=
 decide (l = 0) && (if k = 1 then decide (errR r = 0) && decide (n = []) && decide (d = 0) else if k = 2 then decide (r = []) && qe n && dayB d else if k = 3 then decide (r = []) && qe n && decide (d = 0) else false)
def wP (k : Int) (r n : List UInt8) (d : Int) (ss : List Int) : Int :=
 if qP k = true then (if r = [] ∧ n = [] ∧ d = 0 ∧ ss = qI k then qF k else 0) else if ji k r n d ss.length = true then 1 else 0
def zc0 (r m : List UInt8) (d : Int) : Bool := bif (bif decide (r = []) then decide (m = []) else false) then decide (d = 0) else false
theorem Ql {k : Int} {r m : List UInt8} {d : Int} {l ps : List Int} {w : Int} (h : xt k = some (ps, w)) : wP k r m d l = if zc0 r m d = true ∧ l = ps then w else 0 := by
 have h1 : qP k = true := by simp [qP, h]
 have h2 : qI k = ps := by simp [qI, h]
 have h3 : qF k = w := by simp [qF, h]
 unfold wP
 rw [if_pos h1, h2, h3]
 simp [zc0, and_assoc]
theorem u9 {k : Int} {r m : List UInt8} {d : Int} {l : List Int} (h : qP k = false) : wP k r m d l = if ji k r m d l.length = true then 1 else 0 := by
 unfold wP
 rw [if_neg (by rw [h]; decide)]
theorem UK {k : Int} (h : ¬ (4 ≤ k ∧ k ≤ 9)) (h2 : ¬ (11 ≤ k ∧ k ≤ 15)) : qP k = false := by
 have e : ∀ c : Int, (4 ≤ c ∧ c ≤ 9) ∨ (11 ≤ c ∧ c ≤ 15) → (c == k) = false := fun c hc => by
  rw [beq_eq_false_iff_ne]; omega
 simp only [qP, xt, shpL, List.find?_cons, e 4 (by omega), e 5 (by omega), e 6 (by omega), e 7 (by omega), e 8 (by omega), e 9 (by omega), e 11 (by omega), e 12 (by omega), e 13 (by omega), e 14 (by omega), e 15 (by omega), List.find?_nil]
 rfl
namespace Ex
mutual
def depth : Ex → Nat
 | mk _ _ _ _ s => 1 + j8 s
def j8 : List Ex → Nat
 | [] => 0
 | x :: l => max (depth x) (j8 l)
end
mutual
def qS : Ex → Nat
 | mk _ r n _ s => r.length + n.length + vm s
def vm : List Ex → Nat
 | [] => 0
 | x :: l => qS x + vm l
end
mutual
def zK : Ex → Int
 | mk k r n d s => wP k r n d (j0 s)
def j0 : List Ex → List Int
 | [] => []
 | x :: l => zK x :: j0 l
end
mutual
def thin : Ex → Prop
 | mk _ r n _ s => r.length ≤ 2 ^ 48 ∧ n.length ≤ 2 ^ 48 ∧ u7 s
def u7 : List Ex → Prop
 | [] => True
 | x :: l => thin x ∧ u7 l
end
theorem uM (x : Ex) : x.depth = 1 + j8 x.sub := by cases x; rw [depth]; rfl
theorem K6 (x : Ex) : x.qS = x.rat.length + x.name.length + vm x.sub := by cases x; rw [qS]; rfl
theorem ub (x : Ex) : x.zK = wP x.kind x.rat x.name x.date (j0 x.sub) := by cases x; rw [zK]; rfl
theorem Jj (s : List Ex) (i : Nat) (h : i < s.length) : j8 (s.take (i + 1)) = max (j8 (s.take i)) (s.getD i nil).depth := by
 induction s generalizing i with
 | nil => simp at h
 | cons x s ih =>
  cases i with
  | zero => simp [j8]
  | succ i =>
   simp only [List.take_succ_cons, j8, List.getD_cons_succ]
   rw [ih i (by simpa using h)]
   omega
theorem Vr {s : List Ex} {i : Nat} (h : i < s.length) : (s.getD i nil).qS ≤ vm s := by
 induction s generalizing i with
 | nil => simp at h
 | cons x s ih =>
  cases i with
  | zero => simp [vm]
  | succ i =>
   simp only [List.getD_cons_succ, vm]
   have := ih (i := i) (by simpa using h)
   omega
theorem j3 (s : List Ex) : (j0 s).length = s.length := by
 induction s with
 | nil => simp [j0]
 | cons x s ih => simp [j0, ih]
theorem Z1 {s : List Ex} {i : Nat} (h : i < s.length) : (j0 s).getD i 0 = (s.getD i nil).zK := by
 induction s generalizing i with
 | nil => simp at h
 | cons x s ih =>
  cases i with
  | zero => simp [j0]
  | succ i => simpa [j0] using ih (i := i) (by simpa using h)
theorem xp {s : List Ex} {ps : List Int} : j0 s = ps ↔ s.length = ps.length ∧ ∀ i, i < s.length → (s.getD i nil).zK = ps.getD i 0 := by
 constructor
 ·rintro rfl
  exact ⟨(j3 s).symm, fun i hi => (Z1 hi).symm⟩
 ·rintro ⟨h1, h2⟩
  apply List.ext_getElem
  ·rw [j3, h1]
  ·intro i g1 g2
   have g3 : i < s.length := by rwa [j3] at g1
   have := h2 i g3
   rw [← Z1 g3] at this
   simpa [List.getD, g1, g2] using this
mutual
theorem KF : ∀ x : Ex, thin x → qS x ≤ size x * 2 ^ 49
 | mk k r n d s, h => by
  rw [thin] at h
  have := Qd s h.2.2
  rw [qS, size, Nat.add_mul]
  omega
theorem Qd : ∀ l : List Ex, u7 l → vm l ≤ qt l * 2 ^ 49
 | [], _ => by simp [vm]
 | x :: l, h => by
  rw [u7] at h
  have h1 := KF x h.1
  have h2 := Qd l h.2
  rw [vm, qt, Nat.add_mul]
  omega
end
def errX (x : Ex) : Int := if 500 < x.size ∨ 60 < x.depth then 4 else if x.zK = 0 then 8 else 0
theorem Xn (x : Ex) : 0 < x.depth := by rw [uM]; omega
theorem Zp : ∀ x : Ex, x.depth ≤ x.size := by
 intro x
 have key : ∀ (n : Nat) (x : Ex), x.size ≤ n → x.depth ≤ x.size := by
  intro n
  induction n with
  | zero => intro x h; have := size_pos x; omega
  | succ n ih =>
   intro x h
   rw [size_eq] at h ⊢
   rw [uM]
   have : ∀ l : List Ex, qt l ≤ n → j8 l ≤ qt l := by
    intro l
    induction l with
    | nil => simp [j8]
    | cons y l il =>
     intro hl
     simp only [qt, j8] at hl ⊢
     have := ih y (by omega)
     have := il (by omega)
     omega
   have := this x.sub (by omega)
   omega
 exact key _ x (Nat.le_refl _)
end Ex
end Go.Nov
end

/- Expressions: the reference's bounds. -/
section
set_option maxRecDepth 100000
open Go Go.Sx Go.Proofs Go.Nov
namespace Go.Proofs.Tryd
attribute [local simp] eqKV eqA eqA0 eqH eqB eqL eqL0
def G1c (g : Nat) (C : Ctr) : Nat → Option Ctr := fun f => if f = g then some C else none
theorem X9 {g : Nat} {C : Ctr} (h : zb Tryd.prog g C) : ∀ f c, G1c g C f = some c → zb Tryd.prog f c := by
 intro f c hf
 simp only [G1c] at hf
 split at hf
 ·rename_i hg; subst hg; cases hf; exact h
 ·cases hf
end Go.Proofs.Tryd
end

/- Expressions: the depth. -/
section
set_option maxRecDepth 100000
open Go Go.Sx Go.Proofs Go.Nov
namespace Go.Proofs.Tryd
attribute [local simp] eqKV eqA eqA0 eqH eqB eqL eqL0
noncomputable def K53 : List Go.Sx.Item := [.code (Tryd.f53.body.getD .skip)]
def Yb (n : Nat) : Ctr := ctrP true (fun p : Ex × Nat => [p.1.exA, .int .i64 (p.2 : Int)]) (fun p => p.1.size < n ∧ p.1.size < 2 ^ 62 ∧ p.2 < 2 ^ 40) (fun p r => r = min p.1.depth (p.2 + 1)) (fun _ (r : Nat) => (.int .i64 (r : Int), []))
def SDp (s : List Ex) (limit c i : Nat) : KV := [(1, .int .i64 (limit : Int)), (5, .int .i64 (c : Int)), (11, Ex.exS s), (12, .int .i64 (s.length : Int)), (13, .int .i64 (i : Int))]
theorem Vb (n : Nat) (ih : zb Tryd.prog 53 (Yb n)) : zb Tryd.prog 53 (Yb (n + 1)) := by
 refine zg (fn := Tryd.f53) (c := Tryd.f53.body.getD .skip) rfl rfl rfl fun p hp O w0 Q hq => ?_
 obtain ⟨x, limit⟩ := p
 obtain ⟨hxn, hxs, hli⟩ := hp
 replace hq := hq _ rfl
 simp only at hxn hxs hli hq
 have hds := Ex.Zp x
 have hdp := Ex.Xn x
 rw [Ex.uM] at hq hds hdp
 rw [Ex.size_eq] at hxn hxs hds
 obtain ⟨k, r, m, d, s⟩ := x
 simp only [Ex.sub] at hxn hxs hq hds hdp
 have hlen := Ex.jS s
 refine zc.run hmix (X9 ih) [1, 5, 11, 12, 13] 400 (T := .ite (decide ((0 : Int) < limit)) (.leaf (.loop (Prod.fst (lps K53 0)) (Prod.snd (lps K53 0)) [(1, .int .i64 limit), (5, .int .i64 0), (11, .sl s.length 5 (Ex.exG s)), (12, .int .i64 s.length), (13, .int .i64 0)] [.box [.int .u8 k, .str r, .str m, .int .i64 d, .sl s.length 5 (Ex.exG s)]])) (.side (inR .i64 (1 : Int)) (.leaf (.ret [.int .i64 1] [.box [.int .u8 k, .str r, .str m, .int .i64 d, .sl s.length 5 (Ex.exG s)]])))) (by kernel_rfl) ?_
 simp only [Tree.holds, zd, inR, lo, hi, Int.toNat_natCast]
 refine ⟨fun hl => ?_, fun hl => ?_⟩
 ·have hl : 0 < limit := by have := of_decide_eq_true hl; omega
  refine zc.loop (ι := {i : Nat // i ≤ s.length}) (fun i => SDp s limit (min (Ex.j8 (s.take i.1)) limit) i.1) (fun _ => []) (fun i => s.length - i.1) ⟨0, Nat.zero_le _⟩ 0 ?_ ?_ (by kernel_rfl)
  ·exact ⟨by simp [SDp, Ex.j8, Ex.exS, za], by simp, by kernel_rfl, Nat.zero_le _⟩
  ·rintro ⟨i, hil⟩
   obtain ⟨c, hc⟩ : ∃ c, min (Ex.j8 (s.take i)) limit = c := ⟨_, rfl⟩
   simp only [hc]
   refine zc.run hmix (X9 ih) [1, 5, 11, 12, 13] 400 (T := .ite (decide ((↑i : Int) < s.length)) (.side ((0 : Int) ≤ i ∧ (↑i : Int) < s.length) (.side (inR .i64 ((↑limit : Int) - (1 : Int))) (.ex (fun (x : Ex × Nat) => eqL [AV.agg [AV.int .u8 (Ex.kind (List.getD s (Int.toNat (↑i : Int)) Ex.nil)), AV.str (Ex.rat (List.getD s (Int.toNat (↑i : Int)) Ex.nil)), AV.str (Ex.name (List.getD s (Int.toNat (↑i : Int)) Ex.nil)), AV.int .i64 (Ex.date (List.getD s (Int.toNat (↑i : Int)) Ex.nil)), AV.sl (List.length (Ex.sub (List.getD s (Int.toNat (↑i : Int)) Ex.nil))) 5 (Ex.deep (List.getD s (Int.toNat (↑i : Int)) Ex.nil))], AV.int .i64 ((↑limit : Int) - (1 : Int))] [AV.agg [AV.int .u8 x.1.kind, AV.str x.1.rat, AV.str x.1.name, AV.int .i64 x.1.date, AV.sl x.1.sub.length 5 (Ex.exG x.1.sub)], AV.int .i64 x.2] ∧ Ex.size x.1 < n ∧ Ex.size x.1 < 4611686018427387904 ∧ x.2 < 1099511627776) fun n => .all (fun (r : Nat) => r = min n.1.depth (n.2 + 1)) fun n => .side (inR .i64 ((↑i : Int) + (1 : Int))) (.leaf (.back 0 [(1, .int .i64 limit), (5, .int .i64 (max (↑c : Int) (↑n : Int))), (11, .sl s.length 5 (Ex.exG s)), (12, .int .i64 s.length), (13, .int .i64 ((↑i : Int) + (1 : Int)))] [.box [.int .u8 (Ex.kind (List.getD s (Int.toNat (↑i : Int)) Ex.nil)), .str (Ex.rat (List.getD s (Int.toNat (↑i : Int)) Ex.nil)), .str (Ex.name (List.getD s (Int.toNat (↑i : Int)) Ex.nil)), .int .i64 (Ex.date (List.getD s (Int.toNat (↑i : Int)) Ex.nil)), .sl (List.length (Ex.sub (List.getD s (Int.toNat (↑i : Int)) Ex.nil))) 5 (Ex.deep (List.getD s (Int.toNat (↑i : Int)) Ex.nil))]]))))) (.side (inR .i64 ((↑c : Int) + (1 : Int))) (.leaf (.ret [.int .i64 ((↑c : Int) + (1 : Int))] [])))) (by kernel_rfl) ?_
   simp only [Tree.holds, zd, inR, lo, hi, Int.toNat_natCast]
   refine ⟨fun hlt => ?_, fun hge => ?_⟩
   ·have hlt : i < s.length := by have := of_decide_eq_true hlt; omega
    have hg := Ex.qj hlt
    have ht := Ex.Jj s i hlt
    refine ⟨by omega, fun _ => ⟨by omega, fun _ => ⟨(s.getD i Ex.nil, limit - 1), ⟨?_, by show (s.getD i Ex.nil).size < n; omega, by show (s.getD i Ex.nil).size < 2 ^ 62; omega, by show limit - 1 < 2 ^ 40; omega⟩, ⟨_, rfl⟩, ?_⟩⟩⟩
    ·have e1 : (limit : Int) - 1 = ((limit - 1 : Nat) : Int) := by omega
     rw [e1]
     exact ⟨⟨⟨rfl, rfl⟩, rfl, rfl, ⟨rfl, rfl⟩, ⟨rfl, rfl, Ex.vA _⟩, trivial⟩, ⟨rfl, rfl⟩, trivial⟩
    rintro _ rfl
    refine ⟨by omega, fun _ => ?_⟩
    rw [if_pos trivial]
    refine ⟨⟨i + 1, hlt⟩, by show s.length - (i + 1) < s.length - i; omega, ?_, by simp, by kernel_rfl, Nat.zero_le _⟩
    simp [SDp, ht, Ex.exS, za]; omega
   ·have hge : i = s.length := by have := of_decide_eq_false hge; omega
    subst hge
    rw [List.take_length] at hc
    refine ⟨by omega, fun _ => ?_⟩
    exact RetR.scal hq rfl (by simp [resV]; omega)
 ·have hl : limit = 0 := by have := of_decide_eq_false hl; omega
  refine ⟨by decide, fun _ => ?_⟩
  exact RetR.scal hq rfl (by simp [resV]; omega)
theorem YU : zb Tryd.prog 53 (ctrP true (fun p : Ex × Nat => [p.1.exA, .int .i64 (p.2 : Int)]) (fun p => p.1.size < 2 ^ 62 ∧ p.2 < 2 ^ 40) (fun p r => r = min p.1.depth (p.2 + 1)) (fun _ (r : Nat) => (.int .i64 (r : Int), []))) := uW (fun p => p.1.size) Vb
end Go.Proofs.Tryd
end

/- Expressions: what the statements consider; the sorts. -/
section
set_option maxRecDepth 100000
open Go Go.Sx Go.Proofs Go.Nov
namespace Go.Proofs.Tryd
attribute [local simp] eqKV eqA eqA0 eqH eqB eqL eqL0
noncomputable def K32 : List Go.Sx.Item := [.code (Tryd.f32.body.getD .skip)]
def zca : Ctr := ctrP true (fun x : Ex => [x.exA]) (fun x => x.rat.length < 2 ^ 40 ∧ x.name.length < 2 ^ 40) (fun x r => r = bif ji x.kind x.rat x.name x.date x.sub.length then 1 else 0) (fun _ (r : Int) => (.int .u8 r, []))
noncomputable def GLf : Nat → Option Ctr := fun f => if f = 36 then some (x4) else if f = 25 then some (Wj) else if f = 35 then some (xK) else none
theorem zcr : ∀ g c, GLf g = some c → zb Tryd.prog g c := okIf k6 (okIf QF (okIf kB (zp)))
theorem zbg : zb Tryd.prog 54 zca := by
 refine zg (fn := Tryd.f54) (c := Tryd.f54.body.getD .skip) rfl rfl rfl fun x hx O w0 Q hq => ?_
 obtain ⟨k, r, m, d, s⟩ := x
 replace hq := hq _ rfl
 obtain ⟨h1, h2⟩ := hx
 simp only [Ex.rat, Ex.name, Ex.kind, Ex.date, Ex.sub] at h1 h2 hq
 refine zc.run hmix zcr [] 400 (T := .ite (decide (k = 1)) (.ex (fun (x : List UInt8) => decide ((↑s.length : Int) = 0) = true → eqL [AV.str r] [AV.str x] ∧ x.length < 4611686018427387904) fun n => .all (fun (x : Int) => decide ((↑s.length : Int) = 0) = true → x = errR n) fun n => .ite (!bif bif bif decide ((↑s.length : Int) = 0) then decide (n = 0) else false then decide (m = Array.toList #[]) else false then decide (d = 0) else false) (.leaf (.ret [.int .u8 0] [.box [.int .u8 k, .str r, .str m, .int .i64 d, .sl s.length 5 (Ex.exG s)]])) (.leaf (.ret [.int .u8 1] [.box [.int .u8 k, .str r, .str m, .int .i64 d, .sl s.length 5 (Ex.exG s)]]))) (.ite (decide (k = 2)) (.ex (fun (x : List UInt8) => (bif decide ((↑s.length : Int) = 0) then decide (r = Array.toList #[]) else false) = true → eqL [AV.str m] [AV.str x] ∧ x.length < 4611686018427387904) fun n => .all (fun (x : Bool) => (bif decide ((↑s.length : Int) = 0) then decide (r = Array.toList #[]) else false) = true → x = qe n) fun n => .ex (fun (x : Int) => (bif bif decide ((↑s.length : Int) = 0) then decide (r = Array.toList #[]) else false then n else false) = true → eqL [AV.int .i64 d] [AV.int .i64 x] ∧ True) fun n_1 => .all (fun (x : Bool) => (bif bif decide ((↑s.length : Int) = 0) then decide (r = Array.toList #[]) else false then n else false) = true → x = dayB n_1) fun n_2 => .ite (!bif bif bif decide ((↑s.length : Int) = 0) then decide (r = Array.toList #[]) else false then n else false then n_2 else false) (.leaf (.ret [.int .u8 0] [.box [.int .u8 k, .str r, .str m, .int .i64 d, .sl s.length 5 (Ex.exG s)]])) (.leaf (.ret [.int .u8 1] [.box [.int .u8 k, .str r, .str m, .int .i64 d, .sl s.length 5 (Ex.exG s)]]))) (.ite (decide (k = 3)) (.ex (fun (x : List UInt8) => (bif decide ((↑s.length : Int) = 0) then decide (r = Array.toList #[]) else false) = true → eqL [AV.str m] [AV.str x] ∧ x.length < 4611686018427387904) fun n => .all (fun (x : Bool) => (bif decide ((↑s.length : Int) = 0) then decide (r = Array.toList #[]) else false) = true → x = qe n) fun n => .ite (!bif bif bif decide ((↑s.length : Int) = 0) then decide (r = Array.toList #[]) else false then n else false then decide (d = 0) else false) (.leaf (.ret [.int .u8 0] [.box [.int .u8 k, .str r, .str m, .int .i64 d, .sl s.length 5 (Ex.exG s)]])) (.leaf (.ret [.int .u8 1] [.box [.int .u8 k, .str r, .str m, .int .i64 d, .sl s.length 5 (Ex.exG s)]]))) (.ite true (.leaf (.ret [.int .u8 0] [.box [.int .u8 k, .str r, .str m, .int .i64 d, .sl s.length 5 (Ex.exG s)]])) (.leaf (.ret [.int .u8 1] [.box [.int .u8 k, .str r, .str m, .int .i64 d, .sl s.length 5 (Ex.exG s)]])))))) (by kernel_rfl) ?_
 simp only [Tree.holds, zd, inR, lo, hi, Int.toNat_natCast]
 have fin : ∀ T : Bool, T = ji k r m d s.length → ((!T) = true → Q (.int .u8 0, [])) ∧ ((!T) = false → Q (.int .u8 1, [])) := by
  intro T hT
  subst hT
  cases hl : ji k r m d s.length with
  | true => rw [hl] at hq; exact ⟨fun h => (by cases h), fun _ => hq⟩
  | false => rw [hl] at hq; exact ⟨fun _ => hq, fun h => (by cases h)⟩
 refine ⟨fun hk => ?_, fun hk => ?_⟩
 ·have hk : k = 1 := of_decide_eq_true hk
  refine ⟨r, fun _ => ⟨by simp, by omega⟩, ⟨_, fun _ => rfl⟩, ?_⟩
  intro e he
  have F := fin (bif bif bif decide ((s.length : Int) = 0) then decide (e = 0) else false then decide (m = []) else false then decide (d = 0) else false) (by
   by_cases hl : s.length = 0
   ·have := he (by simp [hl])
    subst this
    simp [ji, hk, hl, Bool.and_assoc]
   ·simp [ji, hl])
  exact ⟨fun h => RetR.scal (F.1 h) rfl (by simp [resV]), fun h => RetR.scal (F.2 h) rfl (by simp [resV])⟩
 ·have hk1 : k ≠ 1 := of_decide_eq_false hk
  refine ⟨fun hk => ?_, fun hk => ?_⟩
  ·have hk : k = 2 := of_decide_eq_true hk
   refine ⟨m, fun _ => ⟨by simp, by omega⟩, ⟨_, fun _ => rfl⟩, ?_⟩
   intro e he
   refine ⟨d, fun _ => ⟨by simp, trivial⟩, ⟨_, fun _ => rfl⟩, ?_⟩
   intro f hf
   have F := fin (bif bif bif decide ((s.length : Int) = 0) then decide (r = []) else false then e else false then f else false) (by
    by_cases hl : s.length = 0
    ·by_cases hr : r = []
     ·have := he (by simp [hl, hr])
      subst this
      cases hn : qe m with
      | true =>
       have := hf (by simp [hl, hr, hn])
       subst this
       simp [ji, hk, hl, hr, hn]
      | false => simp [ji, hk, hl, hr, hn]
     ·simp [ji, hk, hl, hr]
    ·simp [ji, hl])
   exact ⟨fun h => RetR.scal (F.1 h) rfl (by simp [resV]), fun h => RetR.scal (F.2 h) rfl (by simp [resV])⟩
  ·have hk2 : k ≠ 2 := of_decide_eq_false hk
   refine ⟨fun hk => ?_, fun hk => ?_⟩
   ·have hk : k = 3 := of_decide_eq_true hk
    refine ⟨m, fun _ => ⟨by simp, by omega⟩, ⟨_, fun _ => rfl⟩, ?_⟩
    intro e he
    have F := fin (bif bif bif decide ((s.length : Int) = 0) then decide (r = []) else false then e else false then decide (d = 0) else false) (by
     by_cases hl : s.length = 0
     ·by_cases hr : r = []
      ·have := he (by simp [hl, hr])
       subst this
       simp [ji, hk, hl, hr]
      ·simp [ji, hk, hl, hr]
     ·simp [ji, hl])
    exact ⟨fun h => RetR.scal (F.1 h) rfl (by simp [resV]), fun h => RetR.scal (F.2 h) rfl (by simp [resV])⟩
   ·have hk3 : k ≠ 3 := of_decide_eq_false hk
    have F := fin false (by simp [ji, hk1, hk2, hk3])
    exact ⟨fun h => RetR.scal (F.1 rfl) rfl (by simp [resV]), fun h => by cases h⟩
def SSo (s : List Ex) (i : Nat) : KV := [(3, .ptr 1 0), (41, Ex.exS s), (42, .int .i64 (s.length : Int)), (43, .int .i64 (i : Int))]
def HSo (k : Int) : Heap := [.dead, .box [.sl (qX k) 1 fun j _ => .int .u8 (qh k j), .int .u8 (qF k)]]
def Kx (n : Nat) : Ctr := ctrP true (fun x : Ex => [x.exA]) (fun x => x.size < n ∧ x.size < 2 ^ 60 ∧ x.qS < 2 ^ 40) (fun x r => r = x.zK) (fun _ (r : Int) => (.int .u8 r, []))
def GSo (n : Nat) : Nat → Option Ctr := fun f => if f = 32 then some (Kx n) else if f = 54 then some zca else none
theorem YA {n : Nat} (h : zb Tryd.prog 32 (Kx n)) : ∀ f c, GSo n f = some c → zb Tryd.prog f c := by
 intro f c hf
 simp only [GSo] at hf
 split at hf
 ·rename_i hg; subst hg; cases hf; exact h
 ·split at hf
  ·rename_i hg; subst hg; cases hf; exact zbg
  ·cases hf
theorem Xc (n : Nat) (ih : zb Tryd.prog 32 (Kx n)) : zb Tryd.prog 32 (Kx (n + 1)) := by
 refine zg (fn := Tryd.f32) (c := Tryd.f32.body.getD .skip) rfl rfl rfl fun x hx O w0 Q hq => ?_
 replace hq := hq _ rfl
 obtain ⟨hxn, hxs, hxb⟩ := hx
 rw [Ex.size_eq] at hxn hxs
 rw [Ex.K6] at hxb
 rw [Ex.ub] at hq
 obtain ⟨k, r, m, d, s⟩ := x
 simp only [Ex.sub, Ex.rat, Ex.name, Ex.kind, Ex.date] at hxn hxs hq hxb
 refine zc.run hmix (YA ih) [3, 41, 42, 43] 400 (T := .ite (qP k) (.ite false (.ex (fun (x : Ex) => eqL [AV.agg [AV.int .u8 k, AV.str r, AV.str m, AV.int .i64 d, AV.sl s.length 5 (Ex.exG s)]] [AV.agg [AV.int .u8 x.kind, AV.str x.rat, AV.str x.name, AV.int .i64 x.date, AV.sl x.sub.length 5 (Ex.exG x.sub)]] ∧ x.rat.length < 1099511627776 ∧ x.name.length < 1099511627776) fun n => .all (fun (r : Int) => r = bif ji n.kind n.rat n.name n.date n.sub.length then (1 : Int) else (0 : Int)) fun n => .leaf (.ret [.int .u8 n] [.box [.int .u8 k, .str r, .str m, .int .i64 d, .sl s.length 5 (Ex.exG s)], .box [.sl (qX k) 1 fun (j x : Nat) => .int .u8 (qh k j), .int .u8 (qF k)]])) (.ite (bif bif bif !decide ((↑s.length : Int) = (↑(qX k) : Int)) then true else !decide (r = Array.toList #[]) then true else !decide (m = Array.toList #[]) then true else !decide (d = 0)) (.leaf (.ret [.int .u8 0] [.box [.int .u8 k, .str r, .str m, .int .i64 d, .sl s.length 5 (Ex.exG s)], .box [.sl (qX k) 1 fun (j x : Nat) => .int .u8 (qh k j), .int .u8 (qF k)]])) (.leaf (.loop (Prod.fst (lps K32 0)) (Prod.snd (lps K32 0)) [(3, .ptr 1 0), (41, .sl s.length 5 (Ex.exG s)), (42, .int .i64 s.length), (43, .int .i64 0)] [.box [.int .u8 k, .str r, .str m, .int .i64 d, .sl s.length 5 (Ex.exG s)], .box [.sl (qX k) 1 fun (j x : Nat) => .int .u8 (qh k j), .int .u8 (qF k)]])))) (.ite true (.ex (fun (x : Ex) => eqL [AV.agg [AV.int .u8 k, AV.str r, AV.str m, AV.int .i64 d, AV.sl s.length 5 (Ex.exG s)]] [AV.agg [AV.int .u8 x.kind, AV.str x.rat, AV.str x.name, AV.int .i64 x.date, AV.sl x.sub.length 5 (Ex.exG x.sub)]] ∧ x.rat.length < 1099511627776 ∧ x.name.length < 1099511627776) fun n => .all (fun (r : Int) => r = bif ji n.kind n.rat n.name n.date n.sub.length then (1 : Int) else (0 : Int)) fun n => .leaf (.ret [.int .u8 n] [.box [.int .u8 k, .str r, .str m, .int .i64 d, .sl s.length 5 (Ex.exG s)], .box [.nils, .int .u8 0]])) (.ite (bif bif bif !decide ((↑s.length : Int) = 0) then true else !decide (r = Array.toList #[]) then true else !decide (m = Array.toList #[]) then true else !decide (d = 0)) (.leaf (.ret [.int .u8 0] [.box [.int .u8 k, .str r, .str m, .int .i64 d, .sl s.length 5 (Ex.exG s)], .box [.nils, .int .u8 0]])) (.leaf (.loop (Prod.fst (lps K32 0)) (Prod.snd (lps K32 0)) [(3, .ptr 1 0), (41, .sl s.length 5 (Ex.exG s)), (42, .int .i64 s.length), (43, .int .i64 0)] [.box [.int .u8 k, .str r, .str m, .int .i64 d, .sl s.length 5 (Ex.exG s)], .box [.nils, .int .u8 0]]))))) (by kernel_rfl) ?_
 simp only [Tree.holds, zd, inR, lo, hi, Int.toNat_natCast]
 refine ⟨fun hk => ⟨fun h => (by cases h), fun _ => ⟨fun h => ?_, fun h => ?_⟩⟩, fun hk => ?_⟩
 ·have hn : ¬ (r = [] ∧ m = [] ∧ d = 0 ∧ Ex.j0 s = qI k) := by
   rintro ⟨rfl, rfl, rfl, h4⟩
   have : s.length = qX k := by rw [← Ex.j3, h4]; rfl
   simp [this] at h
  have e : wP k r m d (Ex.j0 s) = 0 := by unfold wP; rw [if_pos hk, if_neg hn]
  exact RetR.scal hq rfl (by simp [resV, e])
 ·have hh : s.length = qX k ∧ r = [] ∧ m = [] ∧ d = 0 := by
   simp at h
   obtain ⟨⟨⟨h1, h2⟩, h3⟩, h4⟩ := h
   exact ⟨by omega, h2, h3, h4⟩
  obtain ⟨hl, rfl, rfl, rfl⟩ := hh
  have hlen := Ex.jS s
  have e1 : wP k [] [] 0 (Ex.j0 s) = if Ex.j0 s = qI k then qF k else 0 := by unfold wP; rw [if_pos hk]; simp
  rw [e1] at hq
  clear h e1
  refine zc.loop (ι := {i : Nat // i ≤ s.length ∧ ∀ j, j < i → (s.getD j Ex.nil).zK = qh k j}) (fun i => SSo s i.1) (fun _ => HSo k) (fun i => s.length - i.1) ⟨0, Nat.zero_le _, fun j hj => by omega⟩ 0 ?_ ?_ (by kernel_rfl)
  ·exact ⟨by simp [SSo, Ex.exS, za], by simp [HSo, za], by kernel_rfl, Nat.zero_le _⟩
  ·rintro ⟨i, hil, hib⟩
   refine zc.run hmix (YA ih) [3, 41, 42, 43] 400 (T := .ite (decide ((↑i : Int) < s.length)) (.side ((0 : Int) ≤ i ∧ (↑i : Int) < s.length) (.side ((0 : Int) ≤ i ∧ (↑i : Int) < (↑(qX k) : Int)) (.ex (fun (x : Ex) => eqL [AV.agg [AV.int .u8 (Ex.kind (List.getD s (Int.toNat (↑i : Int)) Ex.nil)), AV.str (Ex.rat (List.getD s (Int.toNat (↑i : Int)) Ex.nil)), AV.str (Ex.name (List.getD s (Int.toNat (↑i : Int)) Ex.nil)), AV.int .i64 (Ex.date (List.getD s (Int.toNat (↑i : Int)) Ex.nil)), AV.sl (List.length (Ex.sub (List.getD s (Int.toNat (↑i : Int)) Ex.nil))) 5 (Ex.deep (List.getD s (Int.toNat (↑i : Int)) Ex.nil))]] [AV.agg [AV.int .u8 x.kind, AV.str x.rat, AV.str x.name, AV.int .i64 x.date, AV.sl x.sub.length 5 (Ex.exG x.sub)]] ∧ Ex.size x < n ∧ Ex.size x < 1152921504606846976 ∧ Ex.qS x < 1099511627776) fun n => .all (fun (r : Int) => r = Ex.zK n) fun n => .ite (!decide (n = qh k (Int.toNat (↑i : Int)))) (.leaf (.ret [.int .u8 0] [.dead, .box [.sl (qX k) 1 fun (j x : Nat) => .int .u8 (qh k j), .int .u8 (qF k)], .box [.int .u8 (Ex.kind (List.getD s (Int.toNat (↑i : Int)) Ex.nil)), .str (Ex.rat (List.getD s (Int.toNat (↑i : Int)) Ex.nil)), .str (Ex.name (List.getD s (Int.toNat (↑i : Int)) Ex.nil)), .int .i64 (Ex.date (List.getD s (Int.toNat (↑i : Int)) Ex.nil)), .sl (List.length (Ex.sub (List.getD s (Int.toNat (↑i : Int)) Ex.nil))) 5 (Ex.deep (List.getD s (Int.toNat (↑i : Int)) Ex.nil))]])) (.side (inR .i64 ((↑i : Int) + (1 : Int))) (.leaf (.back 0 [(3, .ptr 1 0), (41, .sl s.length 5 (Ex.exG s)), (42, .int .i64 s.length), (43, .int .i64 ((↑i : Int) + (1 : Int)))] [.dead, .box [.sl (qX k) 1 fun (j x : Nat) => .int .u8 (qh k j), .int .u8 (qF k)], .box [.int .u8 (Ex.kind (List.getD s (Int.toNat (↑i : Int)) Ex.nil)), .str (Ex.rat (List.getD s (Int.toNat (↑i : Int)) Ex.nil)), .str (Ex.name (List.getD s (Int.toNat (↑i : Int)) Ex.nil)), .int .i64 (Ex.date (List.getD s (Int.toNat (↑i : Int)) Ex.nil)), .sl (List.length (Ex.sub (List.getD s (Int.toNat (↑i : Int)) Ex.nil))) 5 (Ex.deep (List.getD s (Int.toNat (↑i : Int)) Ex.nil))]])))))) (.leaf (.ret [.int .u8 (qF k)] [.dead, .box [.sl (qX k) 1 fun (j x : Nat) => .int .u8 (qh k j), .int .u8 (qF k)]]))) (by kernel_rfl) ?_
   simp only [Tree.holds, zd, inR, lo, hi, Int.toNat_natCast]
   refine ⟨fun hlt => ?_, fun hge => ?_⟩
   ·have hlt : i < s.length := by have := of_decide_eq_true hlt; omega
    have hg := Ex.qj hlt
    have hg2 := Ex.Vr hlt
    have hb0 : Ex.vm s < 2 ^ 40 := by simpa using hxb
    refine ⟨by omega, fun _ => ⟨by omega, fun _ => ⟨s.getD i Ex.nil, ⟨yG rfl rfl rfl rfl rfl (Ex.vA _), by omega, by omega, by omega⟩, ⟨_, rfl⟩, ?_⟩⟩⟩
    intro e he
    refine ⟨fun h => ?_, fun h => ⟨by omega, fun _ => ?_⟩⟩
    ·have hne : ¬ Ex.j0 s = qI k := by
      intro h2
      have := (Ex.xp.1 h2).2 i hlt
      rw [← he] at this
      have h3 : ¬ e = qh k i := by simpa using h
      exact h3 this
     rw [if_neg hne] at hq
     exact RetR.scal hq rfl (by simp [resV])
    ·rw [if_pos trivial]
     have h3 : e = qh k i := by simpa using h
     refine ⟨⟨i + 1, hlt, fun j hj => ?_⟩, by show s.length - (i + 1) < s.length - i; omega, by simp [SSo, Ex.exS, za], by simp [HSo, za], by kernel_rfl, Nat.zero_le _⟩
     rcases Nat.lt_or_ge j i with h1 | h1
     ·exact hib j h1
     ·have : j = i := by omega
      rw [this, ← he, h3]
   ·have hge : i = s.length := by have := of_decide_eq_false hge; omega
    subst hge
    have : Ex.j0 s = qI k := Ex.xp.2 ⟨hl, hib⟩
    rw [if_pos this] at hq
    exact RetR.scal hq rfl (by simp [resV])
 ·refine ⟨fun _ => ?_, fun h => (by cases h)⟩
  refine ⟨.mk k r m d s, ⟨⟨⟨⟨rfl, rfl⟩, rfl, rfl, ⟨rfl, rfl⟩, ⟨rfl, rfl, za _ _ _⟩, trivial⟩, trivial⟩, by show r.length < _; omega, by show m.length < _; omega⟩, ⟨_, rfl⟩, ?_⟩
  intro e he
  have e1 : wP k r m d (Ex.j0 s) = e := by
   unfold wP
   rw [if_neg (by rw [hk]; decide), he, Ex.j3]
   show _ = bif ji k r m d s.length then 1 else 0
   cases ji k r m d s.length <;> rfl
  rw [e1] at hq
  exact RetR.scal hq rfl (by simp [resV])
def Q9 : Ctr := ctrP true (fun x : Ex => [x.exA]) (fun x => x.size < 2 ^ 60 ∧ x.qS < 2 ^ 40) (fun x r => r = x.zK) (fun _ (r : Int) => (.int .u8 r, []))
theorem VV : zb Tryd.prog 32 Q9 := uW Ex.size Xc
end Go.Proofs.Tryd
end

/- Expressions: the reference's sorts. -/
section
set_option maxRecDepth 100000
open Go Go.Sx Go.Proofs Go.Nov
namespace Go.Proofs.Tryd
attribute [local simp] eqKV eqA eqA0 eqH eqB eqL eqL0
end Go.Proofs.Tryd
end

/- Expressions: the checks. -/
section
set_option maxRecDepth 100000
open Go Go.Sx Go.Proofs Go.Nov
namespace Go.Proofs.Tryd
attribute [local simp] eqKV eqA eqA0 eqH eqB eqL eqL0
def YX : Ctr := ctrP true (fun x : Ex => [x.exA]) (fun x => x.size < 2 ^ 62) (fun x r => r = x.size) (fun _ (r : Nat) => (.int .i64 (r : Int), []))
def YF : Ctr := ctrP true (fun p : Ex × Nat => [p.1.exA, .int .i64 (p.2 : Int)]) (fun p => p.1.size < 2 ^ 62 ∧ p.2 < 2 ^ 40) (fun p r => r = min p.1.depth (p.2 + 1)) (fun _ (r : Nat) => (.int .i64 (r : Int), []))
def VN : Ctr := ctrP true (fun x : Ex => [x.exA]) (fun x => x.size < 2 ^ 40 ∧ x.qS < 2 ^ 40) (fun x r => r = x.errX) (fun _ (r : Int) => (.int .i64 r, []))
theorem eqX (x : Ex) : eqL [.agg [.int .u8 x.kind, .str x.rat, .str x.name, .int .i64 x.date, .sl x.sub.length 5 (Ex.exG x.sub)]] [x.exA] := yG rfl rfl rfl rfl rfl (za _ _ _)
theorem K1 {x : Ex} {n : Nat} (hn : decide (500 < (x.size : Int)) = false → (60 < n ↔ 60 < x.depth)) :
  ((bif decide (500 < (x.size : Int)) then true else decide (60 < (n : Int))) = true → x.errX = 4) ∧ ((bif decide (500 < (x.size : Int)) then true else decide (60 < (n : Int))) = false → x.errX = if x.zK = 0 then 8 else 0) := by
 by_cases h : 500 < x.size
 ·have e : decide (500 < (x.size : Int)) = true := decide_eq_true (by omega)
  rw [e]
  exact ⟨fun _ => if_pos (.inl h), fun h => by cases h⟩
 ·have e : decide (500 < (x.size : Int)) = false := decide_eq_false (by omega)
  have h2 := hn e
  rw [e]
  simp only [cond_false]
  by_cases h3 : 60 < n
  ·exact ⟨fun _ => if_pos (.inr (h2.1 h3)), fun h => by have := of_decide_eq_false h; omega⟩
  ·refine ⟨fun h => by have := of_decide_eq_true h; omega, fun _ => ?_⟩
   unfold Ex.errX
   rw [if_neg]
   rintro (h4 | h4)
   ·exact h h4
   ·exact h3 (h2.2 h4)
noncomputable def GCk : Nat → Option Ctr := fun f => if f = 29 then some (YX) else if f = 53 then some (YF) else if f = 32 then some (Q9) else none
theorem zcq : ∀ g c, GCk g = some c → zb Tryd.prog g c := okIf zay (okIf YU (okIf VV (zp)))
theorem Xw : zb Tryd.prog 27 VN := by
 refine zg (fn := Tryd.f27) (c := Tryd.f27.body.getD .skip) rfl rfl rfl fun x hx O w0 Q hq => ?_
 replace hq := hq _ rfl
 obtain ⟨h1, h2⟩ := hx
 refine zc.run hmix zcq [] 400 (T := .ex (fun (x_1 : Ex) => eqL [AV.agg [AV.int .u8 x.kind, AV.str x.rat, AV.str x.name, AV.int .i64 x.date, AV.sl x.sub.length 5 (Ex.exG x.sub)]] [AV.agg [AV.int .u8 x_1.kind, AV.str x_1.rat, AV.str x_1.name, AV.int .i64 x_1.date, AV.sl x_1.sub.length 5 (Ex.exG x_1.sub)]] ∧ Ex.size x_1 < 4611686018427387904) fun n => .all (fun (r : Nat) => r = Ex.size n) fun n => .ex (fun (x_1 : Ex × Nat) => decide ((500 : Int) < n) = false → eqL [AV.agg [AV.int .u8 x.kind, AV.str x.rat, AV.str x.name, AV.int .i64 x.date, AV.sl x.sub.length 5 (Ex.exG x.sub)], AV.int .i64 60] [AV.agg [AV.int .u8 x_1.1.kind, AV.str x_1.1.rat, AV.str x_1.1.name, AV.int .i64 x_1.1.date, AV.sl x_1.1.sub.length 5 (Ex.exG x_1.1.sub)], AV.int .i64 x_1.2] ∧ Ex.size x_1.1 < 4611686018427387904 ∧ x_1.2 < 1099511627776) fun n_1 => .all (fun (x : Nat) => decide ((500 : Int) < n) = false → x = min n_1.1.depth (n_1.2 + 1)) fun n_2 => .ite (bif decide ((500 : Int) < n) then true else decide ((60 : Int) < n_2)) (.leaf (.ret [.int .i64 4] [.box [.int .u8 x.kind, .str x.rat, .str x.name, .int .i64 x.date, .sl x.sub.length 5 (Ex.exG x.sub)]])) (.ex (fun (x_1 : Ex) => eqL [AV.agg [AV.int .u8 x.kind, AV.str x.rat, AV.str x.name, AV.int .i64 x.date, AV.sl x.sub.length 5 (Ex.exG x.sub)]] [AV.agg [AV.int .u8 x_1.kind, AV.str x_1.rat, AV.str x_1.name, AV.int .i64 x_1.date, AV.sl x_1.sub.length 5 (Ex.exG x_1.sub)]] ∧ Ex.size x_1 < 1152921504606846976 ∧ Ex.qS x_1 < 1099511627776) fun n => .all (fun (r : Int) => r = Ex.zK n) fun n => .ite (decide (n = 0)) (.leaf (.ret [.int .i64 8] [.box [.int .u8 x.kind, .str x.rat, .str x.name, .int .i64 x.date, .sl x.sub.length 5 (Ex.exG x.sub)]])) (.leaf (.ret [.int .i64 0] [.box [.int .u8 x.kind, .str x.rat, .str x.name, .int .i64 x.date, .sl x.sub.length 5 (Ex.exG x.sub)]])))) (by kernel_rfl) ?_
 simp only [Tree.holds, zd, inR, lo, hi, Int.toNat_natCast]
 refine ⟨x, ⟨yG rfl rfl rfl rfl rfl (za _ _ _), by omega⟩, ⟨_, rfl⟩, ?_⟩
 rintro _ rfl
 refine ⟨(x, 60), fun _ => ⟨⟨⟨⟨rfl, rfl⟩, rfl, rfl, ⟨rfl, rfl⟩, ⟨rfl, rfl, za _ _ _⟩, trivial⟩, ⟨rfl, rfl⟩, trivial⟩, by show x.size < _; omega, by show 60 < 1099511627776; omega⟩, ⟨_, fun _ => rfl⟩, ?_⟩
 intro c hc
 have em := K1 (x := x) (n := c) fun h => by have := hc h; simp only at this; omega
 refine ⟨fun h => ?_, fun h => ⟨x, ⟨eqX x, by omega, by omega⟩, ⟨_, rfl⟩, ?_⟩⟩
 ·rw [em.1 h] at hq
  exact RetR.scal hq rfl (by simp [resV])
 ·have e := em.2 h
  rintro _ rfl
  refine ⟨fun g => ?_, fun g => ?_⟩
  ·rw [e, if_pos (of_decide_eq_true g)] at hq
   exact RetR.scal hq rfl (by simp [resV])
  ·rw [e, if_neg (of_decide_eq_false g)] at hq
   exact RetR.scal hq rfl (by simp [resV])
end Go.Proofs.Tryd
end

/- Rationals: what they mean. -/
section
namespace Go.Nov
theorem zd4 {b : List UInt8} (h : allD b) (hn : b ≠ []) (hz : b.getD 0 0 ≠ 48) : numD b ≠ 0 ∧ txt (numD b) = b := by
 have hd := zcx h
 have hl : 0 < b.length := List.length_pos_iff.2 hn
 have htl : Ten.tlen (dg b) = (dg b).length := by
  rcases Nat.lt_or_ge (Ten.tlen (dg b)) (dg b).length with h1 | h1
  ·exfalso
   have h2 := Ten.jh (dg b) ((dg b).length - 1) (by omega)
   rw [Vc] at h2
   have e : (dg b).getD (b.length - 1) 0 = (b.getD 0 0).toNat - 48 := by
    simp only [dg, List.getD_eq_getElem?_getD]
    rw [List.getElem?_reverse (by simp; omega)]
    simp [List.getElem?_eq_getElem hl, show b.length - 1 - (b.length - 1) = 0 by omega]
   rw [e] at h2
   have h3 : 48 ≤ (b.getD 0 0).toNat := by
    cases b with
    | nil => exact absurd rfl hn
    | cons c r => exact (h c (by simp)).1
   apply hz
   apply UInt8.toNat_inj.1
   show _ = 48
   omega
  ·exact Nat.le_antisymm (Ten.zS _) h1
 have hc : dec (numD b) = dg b := by
  rw [← WA]
  exact Ten.Z7 hd htl
 have h0 : numD b ≠ 0 := by
  intro h0
  rw [h0] at hc
  have : dg b = [] := by rw [← hc]; exact Ten.z7
  have := congrArg List.length this
  rw [Vc, List.length_nil] at this
  omega
 refine ⟨h0, ?_⟩
 rw [xl h0, hc, dg, ← List.map_reverse, List.reverse_reverse, List.map_map]
 conv => rhs; rw [← List.map_id b]
 refine List.map_congr_left fun c hcm => ?_
 obtain ⟨h1, h2⟩ := h c hcm
 apply UInt8.toNat_inj.1
 simp only [Function.comp, id]
 rw [yJ (by omega)]
 omega
theorem VG {s : List UInt8} (h : errI s = 0) : wr (negI s) (numI s) = (s, 0) := by
 obtain ⟨neg, b, h1, h2, h3, h4, h5, h6⟩ := Qt h
 have e1 : negI s = neg := by simp [negI, h2]
 have e2 : numI s = numD b := by simp [numI, h2]
 rw [e1, e2]
 by_cases hz : b.getD 0 0 = 48
 ·have hb : b = [48] := by
   cases b with
   | nil => exact absurd rfl h5
   | cons c r =>
    cases r with
    | nil => have : c = 48 := hz; rw [this]
    | cons d r => rw [v8 hz (by simp)] at h3; cases h3
  subst hb
  cases neg with
  | true => cases h3
  | false => rw [h1]; rfl
 ·obtain ⟨g1, g2⟩ := zd4 h4 h5 hz
  unfold wr
  rw [if_neg g1, g2, if_neg, h1]
  have := yO g1
  rw [g2] at this
  omega
def zI (s : List UInt8) : Int := if negI s then -(numI s : Int) else numI s
theorem jA (s : List UInt8) : (zI s).natAbs = numI s := by unfold zI; split <;> simp
theorem Jc {s : List UInt8} (h : errI s = 0) : negI s = decide (zI s < 0) := by
 unfold zI
 cases hn : negI s with
 | false => simp
 | true =>
  simp only [if_true]
  have : numI s ≠ 0 := by
   intro h0
   have := (xA h).2 h0
   rw [this] at hn
   cases hn
  exact (decide_eq_true (by omega)).symm
def wz (z : Int) : List UInt8 × Int := wr (decide (z < 0)) z.natAbs
theorem VO {s : List UInt8} (h : errI s = 0) : wz (zI s) = (s, 0) := by
 unfold wz
 rw [jA, ← Jc h, VG h]
theorem zds {neg : Bool} {x : Nat} (h : (wr neg x).2 = 0) : zI (wr neg x).1 = if neg then -(x : Int) else x := by
 obtain ⟨h1, h2, h3⟩ := yz h
 unfold zI
 rw [h2, h3]
 by_cases h0 : x = 0
 ·subst h0; simp
 ·cases neg <;> simp [h0]
theorem kH {z : Int} (h : (wz z).2 = 0) : zI (wz z).1 = z := by
 unfold wz at h ⊢
 rw [zds h]
 by_cases hz : z < 0
 ·rw [decide_eq_true hz]; simp only [if_true]; omega
 ·rw [decide_eq_false hz]; simp only [Bool.false_eq_true, if_false]; omega
theorem yy {z : Int} (h : (wz z).2 = 0) : errI (wz z).1 = 0 := (yz h).1
theorem Jr {neg : Bool} {x : Nat} : wr neg x = wz (if neg then -(x : Int) else x) := by
 unfold wz
 by_cases h0 : x = 0
 ·subst h0
  cases neg <;> rfl
 ·cases neg with
  | false => simp only [Bool.false_eq_true, if_false, Int.natAbs_natCast]; rw [decide_eq_false (by omega)]
  | true => simp only [if_true, Int.natAbs_neg, Int.natAbs_natCast]; rw [decide_eq_true (by omega)]
theorem Uh (m : Bool) (x : Nat) (n : Bool) (y : Nat) : (if (sumS m x n y).1 then -((sumS m x n y).2 : Int) else (sumS m x n y).2) = (if m then -(x : Int) else x) + (if n then -(y : Int) else y) := by
 unfold sumS
 by_cases h : m = n
 ·subst h
  rw [if_pos rfl]
  cases m <;> simp <;> omega
 ·rw [if_neg h]
  by_cases h2 : y ≤ x
  ·rw [if_pos h2]
   cases m <;> cases n <;> first | exact absurd rfl h | (simp; omega)
  ·rw [if_neg h2]
   cases m <;> cases n <;> first | exact absurd rfl h | (simp; omega)
theorem zdf {s t : List UInt8} (h : zq s t = 0) : addI s t = wz (zI s + zI t) := by
 unfold addI
 rw [if_pos h, Jr, Uh]; rfl
theorem zda {s t : List UInt8} (h : zq s t = 0) : subI s t = wz (zI s - zI t) := by
 unfold subI
 rw [if_pos h, Jr, Uh]
 congr 1
 unfold zI
 cases negI s <;> cases negI t <;> simp <;> omega
theorem yr {s t : List UInt8} (h : zq s t = 0) : mulI s t = wz (zI s * zI t) := by
 unfold mulI
 rw [if_pos h, Jr]
 congr 1
 unfold zI
 cases negI s <;> cases negI t <;> simp [Int.neg_mul, Int.mul_neg]
end Go.Nov
end

/- Rationals: how a number is written; what the operations yield. -/
section
namespace Go.Nov
def qv (a : List UInt8) : Rat := Rat.divInt (zI (numR a)) (zI (denR a))
def qstr (r : Rat) : List UInt8 := if r.den = 1 then (wz r.num).1 else (wz r.num).1 ++ [47] ++ (wz r.den).1
def kg (r : Rat) : Prop := room r.num.natAbs ∧ room r.den
theorem Y2 (neg : Bool) (x : Nat) : ∀ c ∈ (wr neg x).1, c ≠ 47 := by
 intro c hc h
 subst h
 unfold wr at hc
 split at hc
 ·simp at hc
 ·rename_i h0
  split at hc
  ·simp at hc
  ·have ht : ¬ (47 : UInt8) ∈ txt x := fun hm => by
    have := (Kt h0 _ hm).1
    have e : (47 : UInt8).toNat = 47 := rfl
    omega
   cases neg <;> simp [sgn] at hc <;> exact ht hc
theorem XF {u v : List UInt8} (h : ∀ c ∈ u, c ≠ 47) : cutR (u ++ [47] ++ v) = (u, v, true) := by
 have hs : z6 (u ++ [47] ++ v) = u.length := by
  refine Yl (by simp) (by simp [List.getD]) fun j hj => ?_
  rw [List.append_assoc]
  simp only [List.getD, List.getElem?_append_left hj, List.getElem?_eq_getElem hj, Option.getD_some]
  exact h _ (List.getElem_mem hj)
 rw [VC (by rw [hs]; simp), hs]
 simp
theorem K4 {u : List UInt8} (h : ∀ c ∈ u, c ≠ 47) : cutR u = (u, [], false) := by
 have hs : z6 u = u.length := W9 fun j hj => by
  simp only [List.getD, List.getElem?_eq_getElem hj, Option.getD_some]
  exact h _ (List.getElem_mem hj)
 exact XT (by omega)
theorem JF (z : Int) : ∀ c ∈ (wz z).1, c ≠ 47 := Y2 _ _
theorem kz {z : Int} (h : room z.natAbs) : (wz z).2 = 0 := ve h
theorem zcu : wz 1 = ([49], 0) := vE
theorem yX {r : Rat} (h : kg r) : numR (qstr r) = (wz r.num).1 ∧ denR (qstr r) = (wz (r.den : Int)).1 ∧ (cutR (qstr r)).2.2 = decide (r.den ≠ 1) := by
 unfold qstr
 by_cases h1 : r.den = 1
 ·rw [if_pos h1]
  have := K4 (JF r.num)
  unfold numR denR
  rw [this, h1]
  exact ⟨rfl, by simp only [Bool.false_eq_true, if_false]; exact (congrArg Prod.fst zcu).symm, by simp⟩
 ·rw [if_neg h1]
  have := XF (v := (wz (r.den : Int)).1) (JF r.num)
  unfold numR denR
  rw [this]
  exact ⟨rfl, rfl, by simp [h1]⟩
theorem Jb {r : Rat} (h : kg r) : qv (qstr r) = r := by
 obtain ⟨h1, h2, _⟩ := yX h
 unfold qv
 rw [h1, h2, kH (kz h.1), kH (kz (by rw [Int.natAbs_natCast]; exact h.2)), Rat.divInt_ofNat, Rat.mkRat_self]
theorem yn {r : Rat} (h : kg r) : errR (qstr r) = 0 := by
 obtain ⟨h1, h2, h3⟩ := yX h
 have e1 := yy (kz h.1)
 have e2 : errI (wz (r.den : Int)).1 = 0 := yy (kz (by rw [Int.natAbs_natCast]; exact h.2))
 have z1 := kH (kz h.1)
 have z2 : zI (wz (r.den : Int)).1 = r.den := kH (kz (by rw [Int.natAbs_natCast]; exact h.2))
 unfold errR
 by_cases hd : r.den = 1
 ·rw [h3, hd]
  simp only [ne_eq, not_true_eq_false, decide_false, Bool.false_eq_true, if_false]
  unfold qstr
  rw [if_pos hd]
  exact e1
 ·have hc : (cutR (qstr r)).2.2 = true := by rw [h3]; simp [hd]
  have n1 : (cutR (qstr r)).1 = (wz r.num).1 := h1
  have n2 : (cutR (qstr r)).2.1 = (wz (r.den : Int)).1 := by unfold denR at h2; rw [hc] at h2; exact h2
  rw [hc, if_pos rfl, n1, n2]
  have hp := r.den_pos
  have hneg : negI (wz (r.den : Int)).1 = false := by rw [Jc e2, z2]; exact decide_eq_false (by omega)
  have hn48 : (wz (r.den : Int)).1 ≠ [48] := fun h => by
   rw [h] at z2
   have : zI [48] = 0 := rfl
   omega
  have hn49 : (wz (r.den : Int)).1 ≠ [49] := fun h => by
   rw [h] at z2
   have : zI [49] = 1 := rfl
   omega
  rw [if_neg (by simp [e1, e2, hneg, hn48, hn49]), if_neg (by simp [e1, e2])]
  have hg : gcdR (wz r.num).1 (wz (r.den : Int)).1 = wr false (Nat.gcd r.num.natAbs r.den) := by
   unfold gcdR
   rw [if_pos (zm.2 ⟨e1, e2⟩), ← jA, ← jA, z1, z2, Int.natAbs_natCast]
  have hr : Nat.gcd r.num.natAbs r.den = 1 := r.reduced
  rw [hg, hr, vE, if_neg (by simp)]
theorem UA {a : List UInt8} (h : errR a = 0) : (qv a).num = zI (numR a) ∧ ((qv a).den : Int) = zI (denR a) ∧ qstr (qv a) = a ∧ kg (qv a) := by
 obtain ⟨e1, e2, e3, e4⟩ := qw h
 have hz : zI (denR a) = numI (denR a) := by unfold zI; rw [e3]; rfl
 have hcop : Nat.gcd (numI (numR a)) (numI (denR a)) = 1 := by
  unfold errR at h
  cases hc : (cutR a).2.2 with
  | true =>
   rw [hc, if_pos rfl] at h
   have hd : denR a = (cutR a).2.1 := by unfold denR; rw [hc]; rfl
   rw [hd] at e2 e4 ⊢
   unfold numR at e1 ⊢
   split at h
   ·cases h
   split at h
   ·cases h
   split at h
   ·cases h
   ·rename_i hg
    rw [Classical.not_not] at hg
    unfold gcdR at hg
    rw [if_pos (zm.2 ⟨e1, e2⟩)] at hg
    exact (WV (JG e2 e4).2).1 hg
  | false =>
   have : denR a = [49] := by unfold denR; rw [hc]; rfl
   rw [this]
   exact Nat.gcd_one_right _
 have hq : qv a = ⟨zI (numR a), numI (denR a), e4, by rw [jA]; exact hcop⟩ := by
  unfold qv
  rw [hz, Rat.mk_eq_divInt]
 have hroom : kg (qv a) := by
  rw [hq]
  exact ⟨by show room (zI (numR a)).natAbs; rw [jA]; exact jb e1, jb e2⟩
 refine ⟨by rw [hq], by rw [hq, hz], ?_, hroom⟩
 rw [hq]
 unfold qstr
 simp only
 rw [← hz, VO e1, VO e2]
 cases hc : (cutR a).2.2 with
 | true =>
  have hd : denR a = (cutR a).2.1 := by unfold denR; rw [hc]; rfl
  have hn1 : numI (denR a) ≠ 1 := by
   intro h1
   have : denR a = [49] := by
    have := (VG e2)
    rw [e3, h1, vE] at this
    exact (congrArg Prod.fst this).symm
   unfold errR at h
   rw [hc, if_pos rfl, if_pos (by rw [← hd, this]; simp)] at h
   cases h
  rw [if_neg hn1, hd]
  simp only [numR]
  unfold cutR at hc ⊢
  split at hc
  ·rename_i hs
   rw [if_pos hs]
   simp only
   have h47 := Zc hs
   have : a = a.take (z6 a) ++ ([a.getD (z6 a) 0] ++ a.drop (z6 a + 1)) := by
    conv => lhs; rw [← List.take_append_drop (z6 a) a]
    congr 1
    rw [List.drop_eq_getElem_cons hs]
    simp [List.getD, List.getElem?_eq_getElem hs]
   rw [h47] at this
   rw [List.append_assoc]
   exact this.symm
  ·cases hc
 | false =>
  have hd : denR a = [49] := by unfold denR; rw [hc]; rfl
  rw [hd]
  have : numI [49] = 1 := rfl
  rw [if_pos this]
  unfold numR
  unfold cutR at hc ⊢
  split at hc
  ·cases hc
  ·rename_i hs
   rw [if_neg hs]
end Go.Nov
end

/- Rationals: what the operations yield. -/
section
namespace Go.Nov
theorem zb6 (a b : Int) (hb : b ≠ 0) : b.sign * a = if (decide (a < 0) != decide (b < 0)) = true then -(a.natAbs : Int) else a.natAbs := by
 by_cases h1 : a < 0
 ·rw [decide_eq_true h1]
  by_cases h2 : b < 0
  ·rw [decide_eq_true h2, Int.sign_eq_neg_one_of_neg h2]; simp; omega
  ·rw [decide_eq_false h2, Int.sign_eq_one_of_pos (by omega)]; simp; omega
 ·rw [decide_eq_false h1]
  by_cases h2 : b < 0
  ·rw [decide_eq_true h2, Int.sign_eq_neg_one_of_neg h2]; simp; omega
  ·rw [decide_eq_false h2, Int.sign_eq_one_of_pos (by omega)]; simp; omega
theorem zdl {n d : List UInt8} (hn : errI n = 0) (hd : errI d = 0) (h0 : numI d ≠ 0) : j5 n d = (qstr (Rat.divInt (zI n) (zI d)), 0) ∧ kg (Rat.divInt (zI n) (zI d)) := by
 have hz0 : zI d ≠ 0 := fun h => h0 (by rw [← jA, h]; rfl)
 have hg : (zI d).gcd (zI n) = Nat.gcd (numI n) (numI d) := by
  show Nat.gcd _ _ = _
  rw [jA, jA, Nat.gcd_comm]
 have hden : (Rat.divInt (zI n) (zI d)).den = numI d / Nat.gcd (numI n) (numI d) := by
  rw [Rat.den_divInt, if_neg hz0, hg, jA]
 have hdv : Nat.gcd (numI n) (numI d) ∣ numI n := Nat.gcd_dvd_left _ _
 have hnum : (Rat.divInt (zI n) (zI d)).num = if (negI n != negI d) = true then -((numI n / Nat.gcd (numI n) (numI d) : Nat) : Int) else ((numI n / Nat.gcd (numI n) (numI d) : Nat) : Int) := by
  rw [Rat.num_divInt, hg, zb6 _ _ hz0, jA, ← Jc hn, ← Jc hd]
  split
  ·rw [Int.neg_ediv_of_dvd (Int.natCast_dvd_natCast.2 hdv), Int.natCast_ediv]
  ·rw [Int.natCast_ediv]
 have hroom : kg (Rat.divInt (zI n) (zI d)) := by
  refine ⟨?_, by rw [hden]; exact room_le (Nat.div_le_self _ _) (jb hd)⟩
  rw [hnum]
  have : room (numI n / Nat.gcd (numI n) (numI d)) := room_le (Nat.div_le_self _ _) (jb hn)
  split
  ·rw [Int.natAbs_neg, Int.natAbs_natCast]; exact this
  ·rw [Int.natAbs_natCast]; exact this
 refine ⟨?_, hroom⟩
 unfold j5
 rw [if_neg (by rw [zm.2 ⟨hn, hd⟩]; simp), if_neg h0]
 congr 1
 unfold VJ qstr
 rw [hden, hnum]
 have e2 : (wr false (numI d / Nat.gcd (numI n) (numI d))).1 = (wz ((numI d / Nat.gcd (numI n) (numI d) : Nat) : Int)).1 := by rw [Jr]; rfl
 rw [Jr, e2]
theorem V1 {n d : List UInt8} {e f : Int} {z w : Int} (hw : w ≠ 0) (hz : (n, e) = wz z) (hd : (d, f) = wz w) : frac (n, e) (d, f) = ([], 14) ∨ (frac (n, e) (d, f) = (qstr (Rat.divInt z w), 0) ∧ kg (Rat.divInt z w)) := by
 unfold frac
 by_cases he : e = 0
 ·by_cases hf : f = 0
  ·subst he; subst hf
   have h1 : (wz z).2 = 0 := by rw [← hz]
   have h2 : (wz w).2 = 0 := by rw [← hd]
   have n1 : n = (wz z).1 := by rw [← hz]
   have n2 : d = (wz w).1 := by rw [← hd]
   have z1 := kH h1
   have z2 := kH h2
   have e1 := yy h1
   have e2 := yy h2
   rw [← n1] at z1 e1
   rw [← n2] at z2 e2
   right
   rw [if_neg (by simp)]
   have := zdl e1 e2 (fun h => hw (by rw [← z2]; have := jA d; omega))
   rw [z1, z2] at this
   exact this
  ·left; rw [if_pos (.inr hf)]
 ·left; rw [if_pos (.inl he)]
section
variable {a b : List UInt8} (ha : errR a = 0) (hb : errR b = 0)
include ha hb
theorem Kh : errI (numR a) = 0 ∧ errI (denR a) = 0 ∧ errI (numR b) = 0 ∧ errI (denR b) = 0 ∧ zI (denR a) ≠ 0 ∧ zI (denR b) ≠ 0 ∧ jt a b = 0 := by
 obtain ⟨a1, a2, _, a4⟩ := qw ha
 obtain ⟨b1, b2, _, b4⟩ := qw hb
 exact ⟨a1, a2, b1, b2, fun h => a4 (by rw [← jA, h]; rfl), fun h => b4 (by rw [← jA, h]; rfl), by unfold jt; rw [if_pos ha]; exact hb⟩
theorem Kv : zP a b = 14 ∨ (zP a b = 0 ∧ mulI (numR a) (denR b) = wz (zI (numR a) * zI (denR b)) ∧ mulI (numR b) (denR a) = wz (zI (numR b) * zI (denR a)) ∧ (mulI (numR a) (denR b)).2 = 0 ∧ (mulI (numR b) (denR a)).2 = 0) := by
 obtain ⟨a1, a2, b1, b2, a4, b4, h2⟩ := Kh ha hb
 have m1 := yr (zm.2 ⟨a1, b2⟩)
 have m2 := yr (zm.2 ⟨b1, a2⟩)
 unfold zP
 rw [if_neg (by rw [h2]; simp)]
 by_cases h : (mulI (numR a) (denR b)).2 ≠ 0 ∨ (mulI (numR b) (denR a)).2 ≠ 0
 ·left; rw [if_pos h]
 ·right
  rw [if_neg h]
  simp only [not_or, Classical.not_not] at h
  exact ⟨rfl, m1, m2, h.1, h.2⟩
theorem zdp : addR a b = ([], 14) ∨ (addR a b = (qstr (qv a + qv b), 0) ∧ kg (qv a + qv b)) := by
 obtain ⟨a1, a2, b1, b2, a4, b4, h2⟩ := Kh ha hb
 unfold addR
 rcases Kv ha hb with h | ⟨h, m1, m2, k1, k2⟩
 ·left; rw [h]; rfl
 ·rw [h, if_neg (by simp)]
  rw [m1] at k1
  rw [m2] at k2
  have e1 := yy k1
  have e2 := yy k2
  have := V1 (n := (addI (mulI (numR a) (denR b)).1 (mulI (numR b) (denR a)).1).1) (e := (addI (mulI (numR a) (denR b)).1 (mulI (numR b) (denR a)).1).2) (d := (mulI (denR a) (denR b)).1) (f := (mulI (denR a) (denR b)).2)
   (z := zI (numR a) * zI (denR b) + zI (numR b) * zI (denR a)) (w := zI (denR a) * zI (denR b)) (Int.mul_ne_zero a4 b4) (by rw [m1, m2, zdf (zm.2 ⟨e1, e2⟩), kH k1, kH k2]) (by rw [yr (zm.2 ⟨a2, b2⟩)])
  unfold qv
  rw [Rat.divInt_add_divInt _ _ a4 b4]
  exact this
theorem zcz : subR a b = ([], 14) ∨ (subR a b = (qstr (qv a - qv b), 0) ∧ kg (qv a - qv b)) := by
 obtain ⟨a1, a2, b1, b2, a4, b4, h2⟩ := Kh ha hb
 unfold subR
 rcases Kv ha hb with h | ⟨h, m1, m2, k1, k2⟩
 ·left; rw [h]; rfl
 ·rw [h, if_neg (by simp)]
  rw [m1] at k1
  rw [m2] at k2
  have e1 := yy k1
  have e2 := yy k2
  have := V1 (n := (subI (mulI (numR a) (denR b)).1 (mulI (numR b) (denR a)).1).1) (e := (subI (mulI (numR a) (denR b)).1 (mulI (numR b) (denR a)).1).2) (d := (mulI (denR a) (denR b)).1) (f := (mulI (denR a) (denR b)).2)
   (z := zI (numR a) * zI (denR b) - zI (numR b) * zI (denR a)) (w := zI (denR a) * zI (denR b)) (Int.mul_ne_zero a4 b4) (by rw [m1, m2, zda (zm.2 ⟨e1, e2⟩), kH k1, kH k2]) (by rw [yr (zm.2 ⟨a2, b2⟩)])
  unfold qv
  rw [Rat.divInt_sub_divInt _ _ a4 b4]
  exact this
theorem zcn : mulR a b = ([], 14) ∨ (mulR a b = (qstr (qv a * qv b), 0) ∧ kg (qv a * qv b)) := by
 obtain ⟨a1, a2, b1, b2, a4, b4, h2⟩ := Kh ha hb
 unfold mulR
 rw [h2, if_neg (by simp)]
 have := V1 (n := (mulI (numR a) (numR b)).1) (e := (mulI (numR a) (numR b)).2) (d := (mulI (denR a) (denR b)).1) (f := (mulI (denR a) (denR b)).2)
  (z := zI (numR a) * zI (numR b)) (w := zI (denR a) * zI (denR b)) (Int.mul_ne_zero a4 b4) (by rw [yr (zm.2 ⟨a1, b1⟩)]) (by rw [yr (zm.2 ⟨a2, b2⟩)])
 unfold qv
 rw [Rat.divInt_mul_divInt]
 exact this
end
theorem zad {a b : List UInt8} (ha : errR a = 0) (hb : errR b = 0) (h : (addR a b).2 = 0) : errR (addR a b).1 = 0 ∧ qv (addR a b).1 = qv a + qv b := by
 rcases zdp ha hb with h1 | ⟨h1, h2⟩
 ·rw [h1] at h; cases h
 ·rw [h1]; exact ⟨yn h2, Jb h2⟩
theorem zam {a b : List UInt8} (ha : errR a = 0) (hb : errR b = 0) (h : (subR a b).2 = 0) : errR (subR a b).1 = 0 ∧ qv (subR a b).1 = qv a - qv b := by
 rcases zcz ha hb with h1 | ⟨h1, h2⟩
 ·rw [h1] at h; cases h
 ·rw [h1]; exact ⟨yn h2, Jb h2⟩
theorem zac {a b : List UInt8} (ha : errR a = 0) (hb : errR b = 0) (h : (mulR a b).2 = 0) : errR (mulR a b).1 = 0 ∧ qv (mulR a b).1 = qv a * qv b := by
 rcases zcn ha hb with h1 | ⟨h1, h2⟩
 ·rw [h1] at h; cases h
 ·rw [h1]; exact ⟨yn h2, Jb h2⟩
end Go.Nov
end

/- Expressions: their values. -/
section
namespace Go.Nov
open Go.Sx
structure Ev where
 v : List UInt8
 e : Int
 b : Bool
 g : Int
abbrev Ev.nil : Ev := ⟨[], 0, false, 0⟩
def j4 (k : Int) (a b : List UInt8) : List UInt8 × Int :=
 if k = 7 then (if (cmpR a b).2 ≠ 0 then ([], (cmpR a b).2) else (if (cmpR a b).1 < 0 then b else a, 0))
 else (if (cmpR b a).2 ≠ 0 then ([], (cmpR b a).2) else (if (cmpR b a).1 < 0 then b else a, 0))
def opR (k : Int) (a b : List UInt8) : List UInt8 × Int := if k = 4 then addR a b else if k = 5 then subR a b else if k = 6 then mulR a b else j4 k a b
def fixR (f : List Fx) (a : List UInt8) (d : Int) : List UInt8 × Int := if (qf f a d).2 = true then ((qf f a d).1, 0) else ([], 30)
def uh {α : Type} (z : α) (l0 l1 : Ev) (f : List UInt8 → List UInt8 → α × Int) : α × Int := if l0.e ≠ 0 then (z, l0.e) else if l1.e ≠ 0 then (z, l1.e) else f l0.v l1.v
def valN (f : List Fx) (day k : Int) (r n : List UInt8) (d : Int) (l : List Ev) : List UInt8 × Int :=
 if k = 1 then (r, 0) else if k = 2 then fixR f n d else if k = 3 then fixR f n day
 else if k = 9 then (if (l.getD 0 Ev.nil).g ≠ 0 then ([], (l.getD 0 Ev.nil).g) else if (l.getD 0 Ev.nil).b then ((l.getD 1 Ev.nil).v, (l.getD 1 Ev.nil).e) else ((l.getD 2 Ev.nil).v, (l.getD 2 Ev.nil).e))
 else uh [] (l.getD 0 Ev.nil) (l.getD 1 Ev.nil) (opR k)
def JJ (k : Int) (a b : List UInt8) : Bool × Int := if (cmpR a b).2 ≠ 0 then (false, (cmpR a b).2) else (if k = 11 then decide ((cmpR a b).1 < 0) else decide ((cmpR a b).1 = 0), 0)
def hldN (k : Int) (l : List Ev) : Bool × Int :=
 if 13 ≤ k then (if (l.getD 0 Ev.nil).g ≠ 0 then (false, (l.getD 0 Ev.nil).g) else if k = 15 then (!(l.getD 0 Ev.nil).b, 0)
  else if (l.getD 0 Ev.nil).b = decide (k = 14) then ((l.getD 0 Ev.nil).b, 0) else ((l.getD 1 Ev.nil).b, (l.getD 1 Ev.nil).g))
 else uh false (l.getD 0 Ev.nil) (l.getD 1 Ev.nil) (JJ k)
def evN (f : List Fx) (day k : Int) (r n : List UInt8) (d : Int) (l : List Ev) : Ev := ⟨(valN f day k r n d l).1, (valN f day k r n d l).2, (hldN k l).1, (hldN k l).2⟩
namespace Ex
mutual
def ev (f : List Fx) (day : Int) : Ex → Ev
 | mk k r n d s => evN f day k r n d (evs f day s)
def evs (f : List Fx) (day : Int) : List Ex → List Ev
 | [] => []
 | x :: l => ev f day x :: evs f day l
end
theorem qx {f : List Fx} {day : Int} {s : List Ex} {i : Nat} (h : i < s.length) : (evs f day s).getD i Ev.nil = (s.getD i nil).ev f day := by
 induction s generalizing i with
 | nil => simp at h
 | cons x s ih =>
  rw [evs]
  cases i with
  | zero => rfl
  | succ i => exact ih (by simpa using h)
theorem ZI {x : Ex} (h : x.zK = 1) : (x.kind = 1 ∧ errR x.rat = 0) ∨ x.kind = 2 ∨ x.kind = 3 ∨
  ((4 ≤ x.kind ∧ x.kind ≤ 8) ∧ x.sub.length = 2 ∧ (x.sub.getD 0 nil).zK = 1 ∧ (x.sub.getD 1 nil).zK = 1) ∨
  (x.kind = 9 ∧ x.sub.length = 3 ∧ (x.sub.getD 0 nil).zK = 2 ∧ (x.sub.getD 1 nil).zK = 1 ∧ (x.sub.getD 2 nil).zK = 1) := by
 rw [ub] at h
 by_cases hk : qP x.kind = true
 ·have hk2 : (4 ≤ x.kind ∧ x.kind ≤ 9) ∨ (11 ≤ x.kind ∧ x.kind ≤ 15) := by
   by_cases h1 : 4 ≤ x.kind ∧ x.kind ≤ 9
   ·exact .inl h1
   ·by_cases h2 : 11 ≤ x.kind ∧ x.kind ≤ 15
    ·exact .inr h2
    ·rw [UK h1 h2] at hk; cases hk
  have two : ∀ {k : Int} {ps : List Int} {w : Int}, xt k = some (ps, w) → wP k x.rat x.name x.date (j0 x.sub) = 1 → w = 1 ∧ x.sub.length = ps.length ∧ ∀ i, i < x.sub.length → (x.sub.getD i nil).zK = ps.getD i 0 := by
   intro k ps w hs hn
   rw [Ql hs] at hn
   split at hn
   ·rename_i hc
    exact ⟨hn, xp.1 hc.2⟩
   ·cases hn
  generalize x.kind = k at h hk2 ⊢
  have hk3 : k = 4 ∨ k = 5 ∨ k = 6 ∨ k = 7 ∨ k = 8 ∨ k = 9 ∨ k = 11 ∨ k = 12 ∨ k = 13 ∨ k = 14 ∨ k = 15 := by omega
  right; right; right
  rcases hk3 with rfl | rfl | rfl | rfl | rfl | rfl | rfl | rfl | rfl | rfl | rfl
  iterate 5
   ·left
    obtain ⟨_, h2, h3⟩ := two rfl h
    exact ⟨by decide, h2, h3 0 (by rw [h2]; decide), h3 1 (by rw [h2]; decide)⟩
  ·right
   obtain ⟨_, h2, h3⟩ := two rfl h
   exact ⟨rfl, h2, h3 0 (by rw [h2]; decide), h3 1 (by rw [h2]; decide), h3 2 (by rw [h2]; decide)⟩
  all_goals
   obtain ⟨h1, _⟩ := two rfl h
   cases h1
 ·have hk : qP x.kind = false := by simpa using hk
  rw [u9 hk] at h
  split at h
  ·rename_i hl
   simp only [ji, Bool.and_eq_true] at hl
   obtain ⟨_, hl⟩ := hl
   split at hl
   ·rename_i h1
    simp only [Bool.and_eq_true, decide_eq_true_eq] at hl
    exact .inl ⟨h1, hl.1.1⟩
   ·split at hl
    ·rename_i h2; exact .inr (.inl h2)
    ·split at hl
     ·rename_i h3; exact .inr (.inr (.inl h3))
     ·cases hl
  ·cases h
theorem J9 {x : Ex} (h : x.zK = 2) : ((x.kind = 11 ∨ x.kind = 12) ∧ x.sub.length = 2 ∧ (x.sub.getD 0 nil).zK = 1 ∧ (x.sub.getD 1 nil).zK = 1) ∨
  ((x.kind = 13 ∨ x.kind = 14) ∧ x.sub.length = 2 ∧ (x.sub.getD 0 nil).zK = 2 ∧ (x.sub.getD 1 nil).zK = 2) ∨ (x.kind = 15 ∧ x.sub.length = 1 ∧ (x.sub.getD 0 nil).zK = 2) := by
 rw [ub] at h
 by_cases hk : qP x.kind = true
 ·have hk2 : (4 ≤ x.kind ∧ x.kind ≤ 9) ∨ (11 ≤ x.kind ∧ x.kind ≤ 15) := by
   by_cases h1 : 4 ≤ x.kind ∧ x.kind ≤ 9
   ·exact .inl h1
   ·by_cases h2 : 11 ≤ x.kind ∧ x.kind ≤ 15
    ·exact .inr h2
    ·rw [UK h1 h2] at hk; cases hk
  have two : ∀ {k : Int} {ps : List Int} {w : Int}, xt k = some (ps, w) → wP k x.rat x.name x.date (j0 x.sub) = 2 → w = 2 ∧ x.sub.length = ps.length ∧ ∀ i, i < x.sub.length → (x.sub.getD i nil).zK = ps.getD i 0 := by
   intro k ps w hs hn
   rw [Ql hs] at hn
   split at hn
   ·rename_i hc
    exact ⟨hn, xp.1 hc.2⟩
   ·cases hn
  generalize x.kind = k at h hk2 ⊢
  have hk3 : k = 4 ∨ k = 5 ∨ k = 6 ∨ k = 7 ∨ k = 8 ∨ k = 9 ∨ k = 11 ∨ k = 12 ∨ k = 13 ∨ k = 14 ∨ k = 15 := by omega
  rcases hk3 with rfl | rfl | rfl | rfl | rfl | rfl | rfl | rfl | rfl | rfl | rfl
  iterate 6
   ·obtain ⟨h1, _⟩ := two rfl h
    cases h1
  ·obtain ⟨_, h2, h3⟩ := two rfl h
   exact .inl ⟨.inl rfl, h2, h3 0 (by rw [h2]; decide), h3 1 (by rw [h2]; decide)⟩
  ·obtain ⟨_, h2, h3⟩ := two rfl h
   exact .inl ⟨.inr rfl, h2, h3 0 (by rw [h2]; decide), h3 1 (by rw [h2]; decide)⟩
  ·obtain ⟨_, h2, h3⟩ := two rfl h
   exact .inr (.inl ⟨.inl rfl, h2, h3 0 (by rw [h2]; decide), h3 1 (by rw [h2]; decide)⟩)
  ·obtain ⟨_, h2, h3⟩ := two rfl h
   exact .inr (.inl ⟨.inr rfl, h2, h3 0 (by rw [h2]; decide), h3 1 (by rw [h2]; decide)⟩)
  ·obtain ⟨_, h2, h3⟩ := two rfl h
   exact .inr (.inr ⟨rfl, h2, h3 0 (by rw [h2]; decide)⟩)
 ·have hk : qP x.kind = false := by simpa using hk
  rw [u9 hk] at h
  split at h <;> cases h
end Ex
theorem YQ {f : List Fx} {a : List UInt8} {d : Int} (h : (qf f a d).2 = false) : (qf f a d).1 = [] := by
 unfold qf at h ⊢
 split
 ·rename_i y hy; rw [hy] at h; cases h
 ·rfl
theorem Kq {f : List Fx} (hf : f.all okF = true) {a : List UInt8} {d : Int} (h : (fixR f a d).2 = 0) : errR (fixR f a d).1 = 0 := by
 unfold fixR at h ⊢
 split
 ·rename_i h1
  unfold qf at h1 ⊢
  split at h1
  ·rename_i y hy
   have hm := List.mem_of_find?_eq_some hy
   have := List.all_eq_true.1 hf _ hm
   simp only [okF, Bool.and_eq_true, decide_eq_true_eq] at this
   exact this.2
  ·cases h1
 ·rename_i h1
  rw [if_neg h1] at h
  cases h
theorem Up {k : Int} {a b : List UInt8} (ha : errR a = 0) (hb : errR b = 0) (h : (j4 k a b).2 = 0) : errR (j4 k a b).1 = 0 := by
 unfold j4 at h ⊢
 split
 ·rename_i h1
  rw [if_pos h1] at h
  split
  ·rename_i h2; rw [if_pos h2] at h; exact absurd h h2
  ·simp only; split <;> assumption
 ·rename_i h1
  rw [if_neg h1] at h
  split
  ·rename_i h2; rw [if_pos h2] at h; exact absurd h h2
  ·simp only; split <;> assumption
theorem zd6 {k : Int} {a b : List UInt8} (ha : errR a = 0) (hb : errR b = 0) (h : (opR k a b).2 = 0) : errR (opR k a b).1 = 0 := by
 unfold opR at h ⊢
 split
 ·rename_i h1; rw [if_pos h1] at h; exact (zad ha hb h).1
 ·rename_i h1
  rw [if_neg h1] at h
  split
  ·rename_i h2; rw [if_pos h2] at h; exact (zam ha hb h).1
  ·rename_i h2
   rw [if_neg h2] at h
   split
   ·rename_i h3; rw [if_pos h3] at h; exact (zac ha hb h).1
   ·rename_i h3
    rw [if_neg h3] at h
    exact Up ha hb h
theorem x2 {a : List UInt8} (h : errR a = 0) : a.length ≤ 2003 := by
 have h1 := (UA h).2.2.1
 rw [← h1]
 unfold qstr wz
 have g1 := vB (decide ((qv a).num < 0)) (qv a).num.natAbs
 have g2 := vB (decide (((qv a).den : Int) < 0)) ((qv a).den : Int).natAbs
 split
 ·omega
 ·simp only [List.length_append, List.length_cons, List.length_nil]
  omega
theorem Ex.y5 {f : List Fx} (hf : f.all okF = true) (day : Int) : ∀ x : Ex, x.zK = 1 → (x.ev f day).e = 0 → errR (x.ev f day).v = 0
 | .mk k r n d s, hs, he => by
  have hc := Ex.ZI hs
  simp only [Ex.kind, Ex.rat, Ex.sub] at hc
  rw [Ex.ev] at he ⊢
  simp only [evN] at he ⊢
  unfold valN at he ⊢
  rcases hc with ⟨rfl, h1⟩ | rfl | rfl | ⟨⟨h1, h2⟩, h3, h4, h5⟩ | ⟨rfl, h3, h4, h5, h6⟩
  ·simpa using h1
  ·simp only [show ¬ (2 : Int) = 1 by decide, if_false, if_true] at he ⊢
   exact Kq hf he
  ·simp only [show ¬ (3 : Int) = 1 by decide, show ¬ (3 : Int) = 2 by decide, if_false, if_true] at he ⊢
   exact Kq hf he
  ·rw [if_neg (by omega), if_neg (by omega), if_neg (by omega), if_neg (by omega)] at he ⊢
   rw [Ex.qx (by omega), Ex.qx (by omega)] at he ⊢
   unfold uh at he ⊢
   have w0 : s.getD 0 Ex.nil ∈ s := by simp [List.getD, List.getElem?_eq_getElem (show 0 < s.length by omega)]
   have w1 : s.getD 1 Ex.nil ∈ s := by simp [List.getD, List.getElem?_eq_getElem (show 1 < s.length by omega)]
   split
   ·rename_i g; rw [if_pos g] at he; exact absurd he g
   ·rename_i g
    rw [if_neg g] at he
    split
    ·rename_i g2; rw [if_pos g2] at he; exact absurd he g2
    ·rename_i g2
     rw [if_neg g2] at he
     rw [Classical.not_not] at g g2
     exact zd6 (Ex.y5 hf day _ h4 g) (Ex.y5 hf day _ h5 g2) he
  ·simp only [show ¬ (9 : Int) = 1 by decide, show ¬ (9 : Int) = 2 by decide, show ¬ (9 : Int) = 3 by decide, if_false, if_true] at he ⊢
   rw [Ex.qx (by omega), Ex.qx (by omega), Ex.qx (by omega)] at he ⊢
   have w1 : s.getD 1 Ex.nil ∈ s := by simp [List.getD, List.getElem?_eq_getElem (show 1 < s.length by omega)]
   have w2 : s.getD 2 Ex.nil ∈ s := by simp [List.getD, List.getElem?_eq_getElem (show 2 < s.length by omega)]
   split
   ·rename_i g; rw [if_pos g] at he; exact absurd he g
   ·rename_i g
    rw [if_neg g] at he
    split
    ·rename_i g2; rw [if_pos g2] at he; exact Ex.y5 hf day _ h5 he
    ·rename_i g2; rw [if_neg g2] at he; exact Ex.y5 hf day _ h6 he
termination_by x => x.size
decreasing_by
 all_goals
  rw [Ex.size]
  have a0 := Ex.qj (s := s) (i := 0)
  have a1 := Ex.qj (s := s) (i := 1)
  have a2 := Ex.qj (s := s) (i := 2)
  first
  | (have := a0 (by omega); omega)
  | (have := a1 (by omega); omega)
  | (have := a2 (by omega); omega)
end Go.Nov
end

/- Evaluation: the state and its steps. -/
section
set_option maxRecDepth 100000
open Go Go.Sx Go.Proofs Go.Nov
namespace Go.Proofs.Tryd
attribute [local simp] eqKV eqA eqA0 eqH eqB eqL eqL0
structure St8 where
 f : List Fx
 c : List Ch
 day : Int
 e : Int
def St8.box (s : St8) : Blk := .box [fxS s.f, chS s.c, .int .i64 s.day, .int .i64 s.e]
def St8.err (s : St8) (e : Int) : St8 := ⟨s.f, s.c, s.day, e⟩
theorem qg (f : List Fx) (c : List Ch) (day e : Int) : eqH [.box [.sl f.length 3 (fxG f), .sl c.length 4 (chG c), .int .i64 day, .int .i64 e]] [(St8.mk f c day e).box] := ⟨⟨⟨rfl, rfl, za _ _ _⟩, ⟨rfl, rfl, za _ _ _⟩, ⟨rfl, rfl⟩, ⟨rfl, rfl⟩, trivial⟩, trivial⟩
theorem RetR.st8 {ctr : Ctr} {Q : AV × Heap → Prop} {rs : List AV} {f : List Fx} {c : List Ch} {day e : Int} {r : AV} (hf : ctr.fresh = false) (hq : Q (r, [(St8.mk f c day e).box])) (hs : x8 r = true) (hr : resV rs = r) (h2 : exp2 [.box [.sl f.length 3 (fxG f), .sl c.length 4 (chG c), .int .i64 day, .int .i64 e]] [0] r = r := by rfl) : RetR ctr 1 Q rs [.box [.sl f.length 3 (fxG f), .sl c.length 4 (chG c), .int .i64 day, .int .i64 e]] := by
 subst hr
 refine RetR.keep [0] rfl rfl (by decide) hf hq ?_ ?_ rfl
 ·rw [h2]; exact ZX hs
 ·exact qg f c day e
structure KS where
 s : St8
 x : List UInt8
 e : Int
def Wv : Ctr := ctrT false false (fun k : KS => [.ptr 0 0, .str k.x, .int .i64 k.e]) (fun k => [k.s.box]) (fun _ => True) (fun k r => r = if k.s.e = 0 then k.e else k.s.e) (fun k (r : Int) => (.str k.x, [(k.s.err r).box]))
def U4 : Ctr := ctrT false false (fun k : St8 × Int × Int => [.ptr 0 0, .int .i64 k.2.1, .int .i64 k.2.2]) (fun k => [k.1.box]) (fun _ => True) (fun k r => r = if k.1.e = 0 then k.2.2 else k.1.e) (fun k (r : Int) => (.int .i64 k.2.1, [(k.1.err r).box]))
theorem Jl : zb Tryd.prog 56 Wv := by
 refine zB (fn := Tryd.f56) (c := Tryd.f56.body.getD .skip) rfl rfl rfl (fun h => by cases h) fun k hk O w0 σ0 Q hl0 hq => ?_
 obtain ⟨⟨f, c, day, e⟩, x, e'⟩ := k
 replace hq := hq _ rfl
 simp only at hq
 refine zc.run hmix z5 [] 400 (T := .ite (decide (e = 0)) (.leaf (.ret [.str x] [.box [.sl f.length 3 (fxG f), .sl c.length 4 (chG c), .int .i64 day, .int .i64 e']])) (.leaf (.ret [.str x] [.box [.sl f.length 3 (fxG f), .sl c.length 4 (chG c), .int .i64 day, .int .i64 e]]))) (by kernel_rfl) ?_
 simp only [Tree.holds, zd]
 refine ⟨fun h => ?_, fun h => ?_⟩
 ·rw [if_pos (of_decide_eq_true h)] at hq
  exact RetR.st8 rfl hq rfl rfl
 ·rw [if_neg (of_decide_eq_false h)] at hq
  exact RetR.st8 rfl hq rfl rfl
theorem U8 : zb Tryd.prog 80 U4 := by
 refine zB (fn := Tryd.f80) (c := Tryd.f80.body.getD .skip) rfl rfl rfl (fun h => by cases h) fun k hk O w0 σ0 Q hl0 hq => ?_
 obtain ⟨⟨f, c, day, e⟩, x, e'⟩ := k
 replace hq := hq _ rfl
 simp only at hq
 refine zc.run hmix z5 [] 400 (T := .ite (decide (e = 0)) (.leaf (.ret [.int .i64 x] [.box [.sl f.length 3 (fxG f), .sl c.length 4 (chG c), .int .i64 day, .int .i64 e']])) (.leaf (.ret [.int .i64 x] [.box [.sl f.length 3 (fxG f), .sl c.length 4 (chG c), .int .i64 day, .int .i64 e]]))) (by kernel_rfl) ?_
 simp only [Tree.holds, zd]
 refine ⟨fun h => ?_, fun h => ?_⟩
 ·rw [if_pos (of_decide_eq_true h)] at hq
  exact RetR.st8 rfl hq rfl rfl
 ·rw [if_neg (of_decide_eq_false h)] at hq
  exact RetR.st8 rfl hq rfl rfl
def fixC : Ctr := ctrT false false (fun k : KS => [.ptr 0 0, .str k.x, .int .i64 k.e]) (fun k => [k.s.box]) (fun k => k.s.f.length < 2 ^ 40 ∧ k.s.e = 0) (fun k r => r = fixR k.s.f k.x k.e) (fun k (r : List UInt8 × Int) => (.str r.1, [(k.s.err r.2).box]))
noncomputable def GFx : Nat → Option Ctr := fun f => if f = 20 then some (XV) else if f = 56 then some (Wv) else none
theorem zd2 : ∀ g c, GFx g = some c → zb Tryd.prog g c := okIf Kk (okIf Jl (zp))
theorem Xj : zb Tryd.prog 55 fixC := by
 refine zB (fn := Tryd.f55) (c := Tryd.f55.body.getD .skip) rfl rfl rfl (fun h => by cases h) fun k hk O w0 σ0 Q hl0 hq => ?_
 obtain ⟨⟨f, c, day, e⟩, x, d⟩ := k
 obtain ⟨h1, h2⟩ := hk
 replace hq := hq _ rfl
 simp only at h1 h2 hq
 subst h2
 refine zc.run hmix zd2 [] 400 (T := .ex (fun (x_1 : (List Fx × List Ch) × List UInt8 × Int) => eqL [AV.agg [AV.sl f.length 3 (fxG f), AV.sl c.length 4 (chG c)], AV.str x, AV.int .i64 d] [AV.agg [AV.sl (List.length (x_1.1.1)) 3 (fxG (x_1.1.1)), AV.sl x_1.1.2.length 4 (chG x_1.1.2)], AV.str (x_1.2.1), AV.int .i64 (x_1.2.2)] ∧ List.length (x_1.1.1) < 1099511627776) fun n => .all (fun (r : List UInt8 × Bool) => r = qf (n.1.1) (n.2.1) (n.2.2)) fun n => .ite (!Prod.snd n) (.ex (fun (x : KS) => eqL [AV.ptr 0 0, AV.str n.1, AV.int .i64 30] [AV.ptr 0 0, AV.str x.x, AV.int .i64 x.e] ∧ eqH [.box [AV.sl f.length 3 (fxG f), AV.sl c.length 4 (chG c), AV.int .i64 day, AV.int .i64 0]] [.box [AV.sl x.s.f.length 3 (fxG x.s.f), AV.sl x.s.c.length 4 (chG x.s.c), AV.int .i64 x.s.day, AV.int .i64 x.s.e]] ∧ 1 = 1 ∧ True) fun n => .all (fun (r : Int) => r = if St8.e n.s = 0 then KS.e n else St8.e n.s) fun n_1 => .leaf (.ret [.str n.x] [.box [.sl (List.length (St8.f (n.s.err n_1))) 3 (fxG (St8.f (n.s.err n_1))), .sl (List.length (St8.c (n.s.err n_1))) 4 (chG (St8.c (n.s.err n_1))), .int .i64 (St8.day (n.s.err n_1)), .int .i64 (St8.e (n.s.err n_1))]])) (.leaf (.ret [.str n.1] [.box [.sl f.length 3 (fxG f), .sl c.length 4 (chG c), .int .i64 day, .int .i64 0]]))) (by kernel_rfl) ?_
 simp only [Tree.holds, zd]
 refine ⟨((f, c), (x, d)), ⟨⟨⟨⟨rfl, rfl, za _ _ _⟩, ⟨rfl, rfl, za _ _ _⟩, trivial⟩, rfl, ⟨rfl, rfl⟩, trivial⟩, h1⟩, ⟨_, rfl⟩, ?_⟩
 rintro _ rfl
 unfold fixR at hq
 refine ⟨fun h => ?_, fun h => ?_⟩
 ·have h : (qf f x d).2 = false := by simpa using h
  have h0 : (qf f x d).1 = [] := YQ h
  rw [if_neg (by rw [h]; decide)] at hq
  refine ⟨⟨⟨f, c, day, 0⟩, [], 30⟩, ⟨⟨⟨rfl, rfl⟩, h0, ⟨rfl, rfl⟩, trivial⟩, qg f c day 0, trivial, trivial⟩, ⟨_, rfl⟩, ?_⟩
  rintro _ rfl
  exact RetR.st8 rfl hq rfl rfl
 ·have h : (qf f x d).2 = true := by simpa using h
  rw [if_pos h] at hq
  exact RetR.st8 rfl hq rfl rfl
structure K2 where
 s : St8
 a : List UInt8
 b : List UInt8
def cmpE (e : Int) (a b : List UInt8) : Int × Int := if e ≠ 0 then (0, e) else cmpR a b
def XY : Ctr := ctrT false false (fun k : K2 => [.ptr 0 0, .str k.a, .str k.b]) (fun k => [k.s.box]) (fun k => k.s.e = 0 → k.a.length < 2 ^ 61 ∧ k.b.length < 2 ^ 61) (fun k r => r = cmpE k.s.e k.a k.b) (fun k (r : Int × Int) => (.int .i64 r.1, [(k.s.err r.2).box]))
noncomputable def GCq : Nat → Option Ctr := fun f => if f = 79 then some (zce) else if f = 80 then some (U4) else none
theorem zcv : ∀ g c, GCq g = some c → zb Tryd.prog g c := okIf zbi (okIf U8 (zp))
theorem V8 : zb Tryd.prog 65 XY := by
 refine zB (fn := Tryd.f65) (c := Tryd.f65.body.getD .skip) rfl rfl rfl (fun h => by cases h) fun k hk O w0 σ0 Q hl0 hq => ?_
 obtain ⟨⟨f, c, day, e⟩, a, b⟩ := k
 replace hq := hq _ rfl
 simp only at hk hq
 unfold cmpE at hq
 refine zc.run hmix zcv [] 400 (T := .ite (!decide (e = 0)) (.leaf (.ret [.int .i64 0] [.box [.sl f.length 3 (fxG f), .sl c.length 4 (chG c), .int .i64 day, .int .i64 e]])) (.ex (fun (x : List UInt8 × List UInt8) => eqL [AV.str a, AV.str b] [AV.str x.1, AV.str x.2] ∧ x.1.length < 2305843009213693952 ∧ x.2.length < 2305843009213693952) fun n => .all (fun (r : Int × Int) => r = cmpR n.1 n.2) fun n => .ex (fun (x : St8 × Int × Int) => eqL [AV.ptr 0 0, AV.int .i64 n.1, AV.int .i64 n.2] [AV.ptr 0 0, AV.int .i64 (x.2.1), AV.int .i64 (x.2.2)] ∧ eqH [.box [AV.sl f.length 3 (fxG f), AV.sl c.length 4 (chG c), AV.int .i64 day, AV.int .i64 e]] [.box [AV.sl x.1.f.length 3 (fxG x.1.f), AV.sl x.1.c.length 4 (chG x.1.c), AV.int .i64 x.1.day, AV.int .i64 x.1.e]] ∧ 1 = 1 ∧ True) fun n => .all (fun (r : Int) => r = if St8.e n.1 = 0 then n.2.2 else St8.e n.1) fun n_1 => .leaf (.ret [.int .i64 (n.2.1)] [.box [.sl (List.length (St8.f (n.1.err n_1))) 3 (fxG (St8.f (n.1.err n_1))), .sl (List.length (St8.c (n.1.err n_1))) 4 (chG (St8.c (n.1.err n_1))), .int .i64 (St8.day (n.1.err n_1)), .int .i64 (St8.e (n.1.err n_1))]]))) (by kernel_rfl) ?_
 simp only [Tree.holds, zd]
 refine ⟨fun h => ?_, fun h => ?_⟩
 ·have h : e ≠ 0 := by simpa using h
  rw [if_pos h] at hq
  exact RetR.st8 rfl hq rfl rfl
 ·have h : e = 0 := by simpa using h
  subst h
  obtain ⟨h1, h2⟩ := hk rfl
  rw [if_neg (by simp)] at hq
  refine ⟨(a, b), ⟨⟨rfl, rfl, trivial⟩, h1, h2⟩, ⟨_, rfl⟩, ?_⟩
  rintro _ rfl
  refine ⟨(⟨f, c, day, 0⟩, (cmpR a b).1, (cmpR a b).2), ⟨⟨⟨rfl, rfl⟩, ⟨rfl, rfl⟩, ⟨rfl, rfl⟩, trivial⟩, qg f c day 0, trivial, trivial⟩, ⟨_, rfl⟩, ?_⟩
  rintro _ rfl
  exact RetR.st8 rfl hq rfl rfl
def sopC (F : List UInt8 → List UInt8 → List UInt8 × Int) (same : Bool) : Ctr := ctrT false false (fun k : K2 => [.ptr 0 0, .str k.a, .str k.b]) (fun k => [k.s.box]) (fun k => k.s.e = 0 ∧ k.a.length < 2 ^ 61 ∧ k.b.length < 2 ^ 61) (fun k r => r.2 = (F k.a k.b).2 ∧ (r.2 = 0 → r.1 = (F k.a k.b).1)) (fun k (r : List UInt8 × Int) => (.tup [.str r.1, .int .i64 r.2], [(bif same then k.s else k.s.err r.2).box]))
noncomputable def zdz : Nat → Option Ctr := fun f => if f = 133 then some (Ko) else if f = 134 then some (Ku) else if f = 135 then some (VP) else none
theorem Ue : ∀ g c, zdz g = some c → zb Tryd.prog g c := okIf QU (okIf QW (okIf Qp (zp)))
theorem zaj : zb Tryd.prog 128 (sopC addR true) := by
 refine zB (fn := Tryd.f128) (c := Tryd.f128.body.getD .skip) rfl rfl rfl (fun h => by cases h) fun k hk O w0 σ0 Q hl0 hq => ?_
 obtain ⟨⟨f, c, day, e⟩, a, b⟩ := k
 replace hq := hq (addR a b) ⟨rfl, fun _ => rfl⟩
 obtain ⟨h0, h1, h2⟩ := hk
 simp only at h0 h1 h2 hq
 refine zc.run hmix Ue [] 400 (T := .ex (fun (x : List UInt8 × List UInt8) => eqL [AV.str a, AV.str b] [AV.str x.1, AV.str x.2] ∧ x.1.length < 2305843009213693952 ∧ x.2.length < 2305843009213693952) fun n => .all (fun (r : List UInt8 × Int) => r = addR n.1 n.2) fun n => .leaf (.ret [.str n.1, .int .i64 n.2] [.box [.sl f.length 3 (fxG f), .sl c.length 4 (chG c), .int .i64 day, .int .i64 e]])) (by kernel_rfl) ?_
 simp only [Tree.holds, zd]
 refine ⟨(a, b), ⟨⟨rfl, rfl, trivial⟩, h1, h2⟩, ⟨_, rfl⟩, ?_⟩
 rintro _ rfl
 exact RetR.st8 rfl hq rfl rfl
noncomputable def ze3 : Nat → Option Ctr := fun f => if f = 133 then some (Ko) else if f = 134 then some (Ku) else if f = 135 then some (VP) else none
theorem Uy : ∀ g c, ze3 g = some c → zb Tryd.prog g c := okIf QU (okIf QW (okIf Qp (zp)))
theorem zas : zb Tryd.prog 129 (sopC subR true) := by
 refine zB (fn := Tryd.f129) (c := Tryd.f129.body.getD .skip) rfl rfl rfl (fun h => by cases h) fun k hk O w0 σ0 Q hl0 hq => ?_
 obtain ⟨⟨f, c, day, e⟩, a, b⟩ := k
 replace hq := hq (subR a b) ⟨rfl, fun _ => rfl⟩
 obtain ⟨h0, h1, h2⟩ := hk
 simp only at h0 h1 h2 hq
 refine zc.run hmix Uy [] 400 (T := .ex (fun (x : List UInt8 × List UInt8) => eqL [AV.str a, AV.str b] [AV.str x.1, AV.str x.2] ∧ x.1.length < 2305843009213693952 ∧ x.2.length < 2305843009213693952) fun n => .all (fun (r : List UInt8 × Int) => r = subR n.1 n.2) fun n => .leaf (.ret [.str n.1, .int .i64 n.2] [.box [.sl f.length 3 (fxG f), .sl c.length 4 (chG c), .int .i64 day, .int .i64 e]])) (by kernel_rfl) ?_
 simp only [Tree.holds, zd]
 refine ⟨(a, b), ⟨⟨rfl, rfl, trivial⟩, h1, h2⟩, ⟨_, rfl⟩, ?_⟩
 rintro _ rfl
 exact RetR.st8 rfl hq rfl rfl
noncomputable def ze2 : Nat → Option Ctr := fun f => if f = 133 then some (Ko) else if f = 134 then some (Ku) else if f = 135 then some (VP) else none
theorem Ya : ∀ g c, ze2 g = some c → zb Tryd.prog g c := okIf QU (okIf QW (okIf Qp (zp)))
theorem zax : zb Tryd.prog 130 (sopC mulR true) := by
 refine zB (fn := Tryd.f130) (c := Tryd.f130.body.getD .skip) rfl rfl rfl (fun h => by cases h) fun k hk O w0 σ0 Q hl0 hq => ?_
 obtain ⟨⟨f, c, day, e⟩, a, b⟩ := k
 replace hq := hq (mulR a b) ⟨rfl, fun _ => rfl⟩
 obtain ⟨h0, h1, h2⟩ := hk
 simp only at h0 h1 h2 hq
 refine zc.run hmix Ya [] 400 (T := .ex (fun (x : List UInt8 × List UInt8) => eqL [AV.str a, AV.str b] [AV.str x.1, AV.str x.2] ∧ x.1.length < 2305843009213693952 ∧ x.2.length < 2305843009213693952) fun n => .all (fun (r : List UInt8 × Int) => r = mulR n.1 n.2) fun n => .leaf (.ret [.str n.1, .int .i64 n.2] [.box [.sl f.length 3 (fxG f), .sl c.length 4 (chG c), .int .i64 day, .int .i64 e]])) (by kernel_rfl) ?_
 simp only [Tree.holds, zd]
 refine ⟨(a, b), ⟨⟨rfl, rfl, trivial⟩, h1, h2⟩, ⟨_, rfl⟩, ?_⟩
 rintro _ rfl
 exact RetR.st8 rfl hq rfl rfl
noncomputable def GGr : Nat → Option Ctr := fun f => if f = 65 then some (XY) else none
theorem YS : ∀ g c, GGr g = some c → zb Tryd.prog g c := okIf V8 (zp)
theorem JK : zb Tryd.prog 131 (sopC (j4 7) false) := by
 refine zB (fn := Tryd.f131) (c := Tryd.f131.body.getD .skip) rfl rfl rfl (fun h => by cases h) fun k hk O w0 σ0 Q hl0 hq => ?_
 obtain ⟨⟨f, c, day, e⟩, a, b⟩ := k
 obtain ⟨h0, h1, h2⟩ := hk
 simp only at h0 h1 h2 hq
 subst h0
 refine zc.run hmix YS [] 400 (T := .ex (fun (x : K2) => eqL [AV.ptr 0 0, AV.str a, AV.str b] [AV.ptr 0 0, AV.str x.a, AV.str x.b] ∧ eqH [.box [AV.sl f.length 3 (fxG f), AV.sl c.length 4 (chG c), AV.int .i64 day, AV.int .i64 0]] [.box [AV.sl x.s.f.length 3 (fxG x.s.f), AV.sl x.s.c.length 4 (chG x.s.c), AV.int .i64 x.s.day, AV.int .i64 x.s.e]] ∧ 1 = 1 ∧ (St8.e x.s = 0 → x.a.length < 2305843009213693952 ∧ x.b.length < 2305843009213693952)) fun n => .all (fun (r : Int × Int) => r = cmpE n.s.e n.a n.b) fun n_1 => .ite (decide (n_1.1 < 0)) (.leaf (.ret [.str b, .int .i64 (St8.e (n.s.err n_1.2))] [.box [.sl (List.length (St8.f (n.s.err n_1.2))) 3 (fxG (St8.f (n.s.err n_1.2))), .sl (List.length (St8.c (n.s.err n_1.2))) 4 (chG (St8.c (n.s.err n_1.2))), .int .i64 (St8.day (n.s.err n_1.2)), .int .i64 (St8.e (n.s.err n_1.2))]])) (.leaf (.ret [.str a, .int .i64 (St8.e (n.s.err n_1.2))] [.box [.sl (List.length (St8.f (n.s.err n_1.2))) 3 (fxG (St8.f (n.s.err n_1.2))), .sl (List.length (St8.c (n.s.err n_1.2))) 4 (chG (St8.c (n.s.err n_1.2))), .int .i64 (St8.day (n.s.err n_1.2)), .int .i64 (St8.e (n.s.err n_1.2))]]))) (by kernel_rfl) ?_
 simp only [Tree.holds, zd]
 refine ⟨⟨⟨f, c, day, 0⟩, a, b⟩, ⟨⟨⟨rfl, rfl⟩, rfl, rfl, trivial⟩, qg f c day 0, trivial, fun _ => ⟨h1, h2⟩⟩, ⟨_, rfl⟩, ?_⟩
 have e1 : cmpE 0 a b = cmpR a b := if_neg (by simp)
 rw [e1]
 rintro _ rfl
 unfold j4 at hq
 rw [if_pos rfl] at hq
 refine ⟨fun h => ?_, fun h => ?_⟩
 ·have h : (cmpR a b).1 < 0 := of_decide_eq_true h
  refine RetR.st8 rfl (hq (b, (cmpR a b).2) ?_) rfl rfl
  by_cases g : (cmpR a b).2 = 0
  ·rw [if_neg (by rw [g]; simp), if_pos h]; exact ⟨g, fun _ => rfl⟩
  ·rw [if_pos g]; exact ⟨rfl, fun h => absurd h g⟩
 ·have h : ¬ (cmpR a b).1 < 0 := of_decide_eq_false h
  refine RetR.st8 rfl (hq (a, (cmpR a b).2) ?_) rfl rfl
  by_cases g : (cmpR a b).2 = 0
  ·rw [if_neg (by rw [g]; simp), if_neg h]; exact ⟨g, fun _ => rfl⟩
  ·rw [if_pos g]; exact ⟨rfl, fun h => absurd h g⟩
theorem Jv : zb Tryd.prog 132 (sopC (j4 8) false) := by
 refine zB (fn := Tryd.f132) (c := Tryd.f132.body.getD .skip) rfl rfl rfl (fun h => by cases h) fun k hk O w0 σ0 Q hl0 hq => ?_
 obtain ⟨⟨f, c, day, e⟩, a, b⟩ := k
 obtain ⟨h0, h1, h2⟩ := hk
 simp only at h0 h1 h2 hq
 subst h0
 refine zc.run hmix YS [] 400 (T := .ex (fun (x : K2) => eqL [AV.ptr 0 0, AV.str b, AV.str a] [AV.ptr 0 0, AV.str x.a, AV.str x.b] ∧ eqH [.box [AV.sl f.length 3 (fxG f), AV.sl c.length 4 (chG c), AV.int .i64 day, AV.int .i64 0]] [.box [AV.sl x.s.f.length 3 (fxG x.s.f), AV.sl x.s.c.length 4 (chG x.s.c), AV.int .i64 x.s.day, AV.int .i64 x.s.e]] ∧ 1 = 1 ∧ (St8.e x.s = 0 → x.a.length < 2305843009213693952 ∧ x.b.length < 2305843009213693952)) fun n => .all (fun (r : Int × Int) => r = cmpE n.s.e n.a n.b) fun n_1 => .ite (decide (n_1.1 < 0)) (.leaf (.ret [.str b, .int .i64 (St8.e (n.s.err n_1.2))] [.box [.sl (List.length (St8.f (n.s.err n_1.2))) 3 (fxG (St8.f (n.s.err n_1.2))), .sl (List.length (St8.c (n.s.err n_1.2))) 4 (chG (St8.c (n.s.err n_1.2))), .int .i64 (St8.day (n.s.err n_1.2)), .int .i64 (St8.e (n.s.err n_1.2))]])) (.leaf (.ret [.str a, .int .i64 (St8.e (n.s.err n_1.2))] [.box [.sl (List.length (St8.f (n.s.err n_1.2))) 3 (fxG (St8.f (n.s.err n_1.2))), .sl (List.length (St8.c (n.s.err n_1.2))) 4 (chG (St8.c (n.s.err n_1.2))), .int .i64 (St8.day (n.s.err n_1.2)), .int .i64 (St8.e (n.s.err n_1.2))]]))) (by kernel_rfl) ?_
 simp only [Tree.holds, zd]
 refine ⟨⟨⟨f, c, day, 0⟩, b, a⟩, ⟨⟨⟨rfl, rfl⟩, rfl, rfl, trivial⟩, qg f c day 0, trivial, fun _ => ⟨h2, h1⟩⟩, ⟨_, rfl⟩, ?_⟩
 have e1 : cmpE 0 b a = cmpR b a := if_neg (by simp)
 rw [e1]
 rintro _ rfl
 unfold j4 at hq
 rw [if_neg (by decide)] at hq
 refine ⟨fun h => ?_, fun h => ?_⟩
 ·have h : (cmpR b a).1 < 0 := of_decide_eq_true h
  refine RetR.st8 rfl (hq (b, (cmpR b a).2) ?_) rfl rfl
  by_cases g : (cmpR b a).2 = 0
  ·rw [if_neg (by rw [g]; simp), if_pos h]; exact ⟨g, fun _ => rfl⟩
  ·rw [if_pos g]; exact ⟨rfl, fun h => absurd h g⟩
 ·have h : ¬ (cmpR b a).1 < 0 := of_decide_eq_false h
  refine RetR.st8 rfl (hq (a, (cmpR b a).2) ?_) rfl rfl
  by_cases g : (cmpR b a).2 = 0
  ·rw [if_neg (by rw [g]; simp), if_neg h]; exact ⟨g, fun _ => rfl⟩
  ·rw [if_pos g]; exact ⟨rfl, fun h => absurd h g⟩
end Go.Proofs.Tryd
end

/- Evaluation: values and truth values. -/
section
set_option maxRecDepth 100000
open Go Go.Sx Go.Proofs Go.Nov
namespace Go.Proofs.Tryd
attribute [local simp] eqKV eqA eqA0 eqH eqB eqL eqL0
theorem Xf {X R Y S : Type} {P : Program} {g h : Nat} {fr mo fr' mo' : Bool} {inp : X → List AV} {hin : X → Heap} {pre : X → Prop} {post : X → R → Prop} {out : X → R → AV × Heap} {inp' : Y → List AV} {hin' : Y → Heap} {pre' : Y → Prop} {post' : Y → S → Prop} {out' : Y → S → AV × Heap} (μ : X → Nat) (ν : Y → Nat)
  (step : ∀ n, zb P g (ctrT fr mo inp hin (fun x => μ x < n ∧ pre x) post out) → zb P h (ctrT fr' mo' inp' hin' (fun y => ν y < n ∧ pre' y) post' out') →
   zb P g (ctrT fr mo inp hin (fun x => μ x < n + 1 ∧ pre x) post out) ∧ zb P h (ctrT fr' mo' inp' hin' (fun y => ν y < n + 1 ∧ pre' y) post' out')) :
  zb P g (ctrT fr mo inp hin pre post out) ∧ zb P h (ctrT fr' mo' inp' hin' pre' post' out') := by
 have all : ∀ n, zb P g (ctrT fr mo inp hin (fun x => μ x < n ∧ pre x) post out) ∧ zb P h (ctrT fr' mo' inp' hin' (fun y => ν y < n ∧ pre' y) post' out') := by
  intro n
  induction n with
  | zero =>
   constructor
   ·intro args hc Q hq _
    obtain ⟨x, ⟨_, _, _, h, _⟩, _⟩ := hq
    exact absurd h (Nat.not_lt_zero _)
   ·intro args hc Q hq _
    obtain ⟨x, ⟨_, _, _, h, _⟩, _⟩ := hq
    exact absurd h (Nat.not_lt_zero _)
  | succ n ih => exact step n ih.1 ih.2
 constructor
 ·intro args hc Q hq hf
  obtain ⟨x, ⟨h1, h2, h3, h4⟩, h5⟩ := hq
  exact (all (μ x + 1)).1 args hc Q ⟨x, ⟨h1, h2, h3, Nat.lt_succ_self _, h4⟩, h5⟩ hf
 ·intro args hc Q hq hf
  obtain ⟨x, ⟨h1, h2, h3, h4⟩, h5⟩ := hq
  exact (all (ν x + 1)).2 args hc Q ⟨x, ⟨h1, h2, h3, Nat.lt_succ_self _, h4⟩, h5⟩ hf
structure VX where
 s : St8
 x : Ex
def evA (k : VX) : Ev := k.x.ev k.s.f k.s.day
def valC (p : VX → Prop) : Ctr := ctrT false false (fun k : VX => [.ptr 0 0, k.x.exA]) (fun k => [k.s.box]) p (fun k r => (k.s.e ≠ 0 → r.2 = k.s.e) ∧ (k.s.e = 0 → r.2 = (evA k).e ∧ (r.2 = 0 → r.1 = (evA k).v))) (fun k (r : List UInt8 × Int) => (.str r.1, [(k.s.err r.2).box]))
def hldC (p : VX → Prop) : Ctr := ctrT false false (fun k : VX => [.ptr 0 0, k.x.exA]) (fun k => [k.s.box]) p (fun k r => (k.s.e ≠ 0 → r.2 = k.s.e) ∧ (k.s.e = 0 → r.2 = (evA k).g ∧ (r.2 = 0 → r.1 = (evA k).b))) (fun k (r : Bool × Int) => (.bool r.1, [(k.s.err r.2).box]))
def VPre (z : Int) (k : VX) : Prop := k.s.e = 0 → k.x.zK = z ∧ k.s.f.all okF = true ∧ k.s.f.length < 2 ^ 40
def GVa (n : Nat) : Nat → Option Ctr := fun f => if f = 34 then some (valC fun k => k.x.size < n ∧ VPre 1 k) else if f = 40 then some (hldC fun k => k.x.size < n ∧ VPre 2 k)
 else if f = 55 then some fixC else if f = 65 then some XY else if f = 56 then some Wv
 else if f = 128 then some (sopC addR true) else if f = 129 then some (sopC subR true) else if f = 130 then some (sopC mulR true) else if f = 131 then some (sopC (j4 7) false) else if f = 132 then some (sopC (j4 8) false) else none
theorem YG {n : Nat} (h1 : zb Tryd.prog 34 (valC fun k => k.x.size < n ∧ VPre 1 k)) (h2 : zb Tryd.prog 40 (hldC fun k => k.x.size < n ∧ VPre 2 k)) : ∀ f c, GVa n f = some c → zb Tryd.prog f c := by
 intro f c hf
 unfold GVa at hf
 iterate 10
  split at hf
  ·rename_i hg; subst hg; cases hf; first | exact h1 | exact h2 | exact Xj | exact V8 | exact Jl | exact zaj | exact zas | exact zax | exact JK | exact Jv
 cases hf
theorem eqX2 (x : Ex) : eqL [.ptr 0 0, .agg [.int .u8 x.kind, .str x.rat, .str x.name, .int .i64 x.date, .sl x.sub.length 5 x.deep]] [.ptr 0 0, x.exA] := ⟨⟨rfl, rfl⟩, ⟨⟨rfl, rfl⟩, rfl, rfl, ⟨rfl, rfl⟩, ⟨rfl, rfl, Ex.vA _⟩, trivial⟩, trivial⟩
theorem zdt (x : Ex) : eqL [.ptr 0 0, x.exA] [.ptr 0 0, x.exA] := ⟨⟨rfl, rfl⟩, ⟨⟨rfl, rfl⟩, rfl, rfl, ⟨rfl, rfl⟩, ⟨rfl, rfl, za _ _ _⟩, trivial⟩, trivial⟩
theorem RetR.st9 {ctr : Ctr} {Q : AV × Heap → Prop} {rs : List AV} {f : List Fx} {c : List Ch} {day e : Int} {b : Blk} {r : AV} (hf : ctr.fresh = false) (hq : Q (r, [(St8.mk f c day e).box])) (hs : x8 r = true) (hr : resV rs = r) (h2 : exp2 [.box [.sl f.length 3 (fxG f), .sl c.length 4 (chG c), .int .i64 day, .int .i64 e], b] [0] r = r := by rfl) : RetR ctr 1 Q rs [.box [.sl f.length 3 (fxG f), .sl c.length 4 (chG c), .int .i64 day, .int .i64 e], b] := by
 subst hr
 refine RetR.keep [0] rfl rfl (by decide) hf hq ?_ ?_ rfl
 ·rw [h2]; exact ZX hs
 ·exact qg f c day e
theorem vU (e e0 : Int) (v : List UInt8) : ∃ r : List UInt8 × Int, (e ≠ 0 → r.2 = e) ∧ (e = 0 → r.2 = e0 ∧ (r.2 = 0 → r.1 = v)) := by
 by_cases h : e = 0
 ·exact ⟨(v, e0), fun g => absurd h g, fun _ => ⟨rfl, fun _ => rfl⟩⟩
 ·exact ⟨(v, e), fun _ => rfl, fun g => absurd g h⟩
theorem uK (e e0 : Int) (v : Bool) : ∃ r : Bool × Int, (e ≠ 0 → r.2 = e) ∧ (e = 0 → r.2 = e0 ∧ (r.2 = 0 → r.1 = v)) := by
 by_cases h : e = 0
 ·exact ⟨(v, e0), fun g => absurd h g, fun _ => ⟨rfl, fun _ => rfl⟩⟩
 ·exact ⟨(v, e), fun _ => rfl, fun g => absurd g h⟩
section
variable (n : Nat) (h1 : zb Tryd.prog 34 (valC fun k => k.x.size < n ∧ VPre 1 k)) (h2 : zb Tryd.prog 40 (hldC fun k => k.x.size < n ∧ VPre 2 k))
include h1 h2
theorem Vd : zb Tryd.prog 34 (valC fun k => k.x.size < n + 1 ∧ VPre 1 k) := by
 refine zB (fn := Tryd.f34) (c := Tryd.f34.body.getD .skip) rfl rfl rfl (fun h => by cases h) fun k hk O w0 σ0 Q hl0 hq => ?_
 obtain ⟨⟨f, c, day, e⟩, ⟨k, r, m, d, s⟩⟩ := k
 obtain ⟨hn, hv⟩ := hk
 simp only at hn hv hq
 refine zc.run hmix (YG h1 h2) [] 400 (T := .ite (!decide (e = 0)) (.leaf (.ret [.str (Array.toList #[])] [.box [.sl f.length 3 (fxG f), .sl c.length 4 (chG c), .int .i64 day, .int .i64 e], .box [.int .u8 k, .str r, .str m, .int .i64 d, .sl s.length 5 (Ex.exG s)]])) (.ite (decide (k = 1)) (.leaf (.ret [.str r] [.box [.sl f.length 3 (fxG f), .sl c.length 4 (chG c), .int .i64 day, .int .i64 e], .box [.int .u8 k, .str r, .str m, .int .i64 d, .sl s.length 5 (Ex.exG s)]])) (.ite (decide (k = 2)) (.ex (fun (x : KS) => eqL [AV.ptr 0 0, AV.str m, AV.int .i64 d] [AV.ptr 0 0, AV.str x.x, AV.int .i64 x.e] ∧ eqH [.box [AV.sl f.length 3 (fxG f), AV.sl c.length 4 (chG c), AV.int .i64 day, AV.int .i64 e]] [.box [AV.sl x.s.f.length 3 (fxG x.s.f), AV.sl x.s.c.length 4 (chG x.s.c), AV.int .i64 x.s.day, AV.int .i64 x.s.e]] ∧ 1 = 1 ∧ x.s.f.length < 1099511627776 ∧ St8.e x.s = 0) fun n => .all (fun (r : List UInt8 × Int) => r = fixR n.s.f n.x n.e) fun n_1 => .leaf (.ret [.str n_1.1] [.box [.sl (List.length (St8.f (n.s.err n_1.2))) 3 (fxG (St8.f (n.s.err n_1.2))), .sl (List.length (St8.c (n.s.err n_1.2))) 4 (chG (St8.c (n.s.err n_1.2))), .int .i64 (St8.day (n.s.err n_1.2)), .int .i64 (St8.e (n.s.err n_1.2))], .box [.int .u8 k, .str r, .str m, .int .i64 d, .sl s.length 5 (Ex.exG s)]])) (.ite (decide (k = 3)) (.ex (fun (x : KS) => eqL [AV.ptr 0 0, AV.str m, AV.int .i64 day] [AV.ptr 0 0, AV.str x.x, AV.int .i64 x.e] ∧ eqH [.box [AV.sl f.length 3 (fxG f), AV.sl c.length 4 (chG c), AV.int .i64 day, AV.int .i64 e]] [.box [AV.sl x.s.f.length 3 (fxG x.s.f), AV.sl x.s.c.length 4 (chG x.s.c), AV.int .i64 x.s.day, AV.int .i64 x.s.e]] ∧ 1 = 1 ∧ x.s.f.length < 1099511627776 ∧ St8.e x.s = 0) fun n => .all (fun (r : List UInt8 × Int) => r = fixR n.s.f n.x n.e) fun n_1 => .leaf (.ret [.str n_1.1] [.box [.sl (List.length (St8.f (n.s.err n_1.2))) 3 (fxG (St8.f (n.s.err n_1.2))), .sl (List.length (St8.c (n.s.err n_1.2))) 4 (chG (St8.c (n.s.err n_1.2))), .int .i64 (St8.day (n.s.err n_1.2)), .int .i64 (St8.e (n.s.err n_1.2))], .box [.int .u8 k, .str r, .str m, .int .i64 d, .sl s.length 5 (Ex.exG s)]])) (.ite (decide (k = 9)) (.side ((0 : Int) ≤ 0 ∧ (0 : Int) < s.length) (.ex (fun (x : VX) => eqL [AV.ptr 0 0, AV.agg [AV.int .u8 (Ex.kind (s.getD 0 Ex.nil)), AV.str (Ex.rat (s.getD 0 Ex.nil)), AV.str (Ex.name (s.getD 0 Ex.nil)), AV.int .i64 (Ex.date (s.getD 0 Ex.nil)), AV.sl (List.length (Ex.sub (s.getD 0 Ex.nil))) 5 (Ex.deep (s.getD 0 Ex.nil))]] [AV.ptr 0 0, AV.agg [AV.int .u8 x.x.kind, AV.str x.x.rat, AV.str x.x.name, AV.int .i64 x.x.date, AV.sl x.x.sub.length 5 (Ex.exG x.x.sub)]] ∧ eqH [.box [AV.sl f.length 3 (fxG f), AV.sl c.length 4 (chG c), AV.int .i64 day, AV.int .i64 e]] [.box [AV.sl x.s.f.length 3 (fxG x.s.f), AV.sl x.s.c.length 4 (chG x.s.c), AV.int .i64 x.s.day, AV.int .i64 x.s.e]] ∧ 1 = 1 ∧ Ex.size x.x < n ∧ VPre (2 : Int) x) fun n_1 => .all (fun (r : Bool × Int) => (St8.e n_1.s ≠ 0 → r.2 = St8.e n_1.s) ∧ (St8.e n_1.s = 0 → r.2 = Ev.g (evA n_1) ∧ (r.2 = 0 → r.1 = Ev.b (evA n_1)))) fun n_2 => .ite n_2.1 (.side ((0 : Int) ≤ 1 ∧ (1 : Int) < s.length) (.ex (fun (x : VX) => eqL [AV.ptr 0 0, AV.agg [AV.int .u8 (Ex.kind (s.getD 1 Ex.nil)), AV.str (Ex.rat (s.getD 1 Ex.nil)), AV.str (Ex.name (s.getD 1 Ex.nil)), AV.int .i64 (Ex.date (s.getD 1 Ex.nil)), AV.sl (List.length (Ex.sub (s.getD 1 Ex.nil))) 5 (Ex.deep (s.getD 1 Ex.nil))]] [AV.ptr 0 0, AV.agg [AV.int .u8 x.x.kind, AV.str x.x.rat, AV.str x.x.name, AV.int .i64 x.x.date, AV.sl x.x.sub.length 5 (Ex.exG x.x.sub)]] ∧ eqH [.box [AV.sl (List.length (St8.f (n_1.s.err n_2.2))) 3 (fxG (St8.f (n_1.s.err n_2.2))), AV.sl (List.length (St8.c (n_1.s.err n_2.2))) 4 (chG (St8.c (n_1.s.err n_2.2))), AV.int .i64 (St8.day (n_1.s.err n_2.2)), AV.int .i64 (St8.e (n_1.s.err n_2.2))]] [.box [AV.sl x.s.f.length 3 (fxG x.s.f), AV.sl x.s.c.length 4 (chG x.s.c), AV.int .i64 x.s.day, AV.int .i64 x.s.e]] ∧ 1 = 1 ∧ Ex.size x.x < n ∧ VPre (1 : Int) x) fun n => .all (fun (r : List UInt8 × Int) => (St8.e n.s ≠ 0 → r.2 = St8.e n.s) ∧ (St8.e n.s = 0 → r.2 = Ev.e (evA n) ∧ (r.2 = 0 → r.1 = Ev.v (evA n)))) fun n_3 => .leaf (.ret [.str n_3.1] [.box [.sl (List.length (St8.f (n.s.err n_3.2))) 3 (fxG (St8.f (n.s.err n_3.2))), .sl (List.length (St8.c (n.s.err n_3.2))) 4 (chG (St8.c (n.s.err n_3.2))), .int .i64 (St8.day (n.s.err n_3.2)), .int .i64 (St8.e (n.s.err n_3.2))], .box [.int .u8 k, .str r, .str m, .int .i64 d, .sl s.length 5 (Ex.exG s)]]))) (.side ((0 : Int) ≤ 2 ∧ (2 : Int) < s.length) (.ex (fun (x : VX) => eqL [AV.ptr 0 0, AV.agg [AV.int .u8 (Ex.kind (s.getD 2 Ex.nil)), AV.str (Ex.rat (s.getD 2 Ex.nil)), AV.str (Ex.name (s.getD 2 Ex.nil)), AV.int .i64 (Ex.date (s.getD 2 Ex.nil)), AV.sl (List.length (Ex.sub (s.getD 2 Ex.nil))) 5 (Ex.deep (s.getD 2 Ex.nil))]] [AV.ptr 0 0, AV.agg [AV.int .u8 x.x.kind, AV.str x.x.rat, AV.str x.x.name, AV.int .i64 x.x.date, AV.sl x.x.sub.length 5 (Ex.exG x.x.sub)]] ∧ eqH [.box [AV.sl (List.length (St8.f (n_1.s.err n_2.2))) 3 (fxG (St8.f (n_1.s.err n_2.2))), AV.sl (List.length (St8.c (n_1.s.err n_2.2))) 4 (chG (St8.c (n_1.s.err n_2.2))), AV.int .i64 (St8.day (n_1.s.err n_2.2)), AV.int .i64 (St8.e (n_1.s.err n_2.2))]] [.box [AV.sl x.s.f.length 3 (fxG x.s.f), AV.sl x.s.c.length 4 (chG x.s.c), AV.int .i64 x.s.day, AV.int .i64 x.s.e]] ∧ 1 = 1 ∧ Ex.size x.x < n ∧ VPre (1 : Int) x) fun n => .all (fun (r : List UInt8 × Int) => (St8.e n.s ≠ 0 → r.2 = St8.e n.s) ∧ (St8.e n.s = 0 → r.2 = Ev.e (evA n) ∧ (r.2 = 0 → r.1 = Ev.v (evA n)))) fun n_3 => .leaf (.ret [.str n_3.1] [.box [.sl (List.length (St8.f (n.s.err n_3.2))) 3 (fxG (St8.f (n.s.err n_3.2))), .sl (List.length (St8.c (n.s.err n_3.2))) 4 (chG (St8.c (n.s.err n_3.2))), .int .i64 (St8.day (n.s.err n_3.2)), .int .i64 (St8.e (n.s.err n_3.2))], .box [.int .u8 k, .str r, .str m, .int .i64 d, .sl s.length 5 (Ex.exG s)]]))))) (.side ((0 : Int) ≤ 0 ∧ (0 : Int) < s.length) (.ex (fun (x : VX) => eqL [AV.ptr 0 0, AV.agg [AV.int .u8 (Ex.kind (s.getD 0 Ex.nil)), AV.str (Ex.rat (s.getD 0 Ex.nil)), AV.str (Ex.name (s.getD 0 Ex.nil)), AV.int .i64 (Ex.date (s.getD 0 Ex.nil)), AV.sl (List.length (Ex.sub (s.getD 0 Ex.nil))) 5 (Ex.deep (s.getD 0 Ex.nil))]] [AV.ptr 0 0, AV.agg [AV.int .u8 x.x.kind, AV.str x.x.rat, AV.str x.x.name, AV.int .i64 x.x.date, AV.sl x.x.sub.length 5 (Ex.exG x.x.sub)]] ∧ eqH [.box [AV.sl f.length 3 (fxG f), AV.sl c.length 4 (chG c), AV.int .i64 day, AV.int .i64 e]] [.box [AV.sl x.s.f.length 3 (fxG x.s.f), AV.sl x.s.c.length 4 (chG x.s.c), AV.int .i64 x.s.day, AV.int .i64 x.s.e]] ∧ 1 = 1 ∧ Ex.size x.x < n ∧ VPre (1 : Int) x) fun n_1 => .all (fun (r : List UInt8 × Int) => (St8.e n_1.s ≠ 0 → r.2 = St8.e n_1.s) ∧ (St8.e n_1.s = 0 → r.2 = Ev.e (evA n_1) ∧ (r.2 = 0 → r.1 = Ev.v (evA n_1)))) fun n_2 => .side ((0 : Int) ≤ 1 ∧ (1 : Int) < s.length) (.ex (fun (x : VX) => eqL [AV.ptr 0 0, AV.agg [AV.int .u8 (Ex.kind (s.getD 1 Ex.nil)), AV.str (Ex.rat (s.getD 1 Ex.nil)), AV.str (Ex.name (s.getD 1 Ex.nil)), AV.int .i64 (Ex.date (s.getD 1 Ex.nil)), AV.sl (List.length (Ex.sub (s.getD 1 Ex.nil))) 5 (Ex.deep (s.getD 1 Ex.nil))]] [AV.ptr 0 0, AV.agg [AV.int .u8 x.x.kind, AV.str x.x.rat, AV.str x.x.name, AV.int .i64 x.x.date, AV.sl x.x.sub.length 5 (Ex.exG x.x.sub)]] ∧ eqH [.box [AV.sl (List.length (St8.f (n_1.s.err n_2.2))) 3 (fxG (St8.f (n_1.s.err n_2.2))), AV.sl (List.length (St8.c (n_1.s.err n_2.2))) 4 (chG (St8.c (n_1.s.err n_2.2))), AV.int .i64 (St8.day (n_1.s.err n_2.2)), AV.int .i64 (St8.e (n_1.s.err n_2.2))]] [.box [AV.sl x.s.f.length 3 (fxG x.s.f), AV.sl x.s.c.length 4 (chG x.s.c), AV.int .i64 x.s.day, AV.int .i64 x.s.e]] ∧ 1 = 1 ∧ Ex.size x.x < n ∧ VPre (1 : Int) x) fun n => .all (fun (r : List UInt8 × Int) => (St8.e n.s ≠ 0 → r.2 = St8.e n.s) ∧ (St8.e n.s = 0 → r.2 = Ev.e (evA n) ∧ (r.2 = 0 → r.1 = Ev.v (evA n)))) fun n_3 => .ite (!decide (St8.e (n.s.err n_3.2) = (0 : Int))) (.leaf (.ret [.str (Array.toList #[])] [.box [.sl (List.length (St8.f (n.s.err n_3.2))) 3 (fxG (St8.f (n.s.err n_3.2))), .sl (List.length (St8.c (n.s.err n_3.2))) 4 (chG (St8.c (n.s.err n_3.2))), .int .i64 (St8.day (n.s.err n_3.2)), .int .i64 (St8.e (n.s.err n_3.2))], .box [.int .u8 k, .str r, .str m, .int .i64 d, .sl s.length 5 (Ex.exG s)]])) (.ite (decide ((4 : Int) ≤ k ∧ k ≤ 8)) (.ite (decide (k = 4)) (.ex (fun (x : K2) => eqL [AV.ptr 0 0, AV.str n_2.1, AV.str n_3.1] [AV.ptr 0 0, AV.str x.a, AV.str x.b] ∧ eqH [.box [AV.sl (List.length (St8.f (n.s.err n_3.2))) 3 (fxG (St8.f (n.s.err n_3.2))), AV.sl (List.length (St8.c (n.s.err n_3.2))) 4 (chG (St8.c (n.s.err n_3.2))), AV.int .i64 (St8.day (n.s.err n_3.2)), AV.int .i64 (St8.e (n.s.err n_3.2))]] [.box [AV.sl x.s.f.length 3 (fxG x.s.f), AV.sl x.s.c.length 4 (chG x.s.c), AV.int .i64 x.s.day, AV.int .i64 x.s.e]] ∧ 1 = 1 ∧ St8.e x.s = 0 ∧ x.a.length < 2305843009213693952 ∧ x.b.length < 2305843009213693952) fun n => .all (fun (r : List UInt8 × Int) => r.2 = Prod.snd (addR n.a n.b) ∧ (r.2 = 0 → r.1 = Prod.fst (addR n.a n.b))) fun n_4 => .ex (fun (x : KS) => eqL [AV.ptr 0 0, AV.str n_4.1, AV.int .i64 n_4.2] [AV.ptr 0 0, AV.str x.x, AV.int .i64 x.e] ∧ eqH [.box [AV.sl (List.length (St8.f (bif true then K2.s n else St8.err n.s n_4.2))) 3 (fxG (St8.f (bif true then K2.s n else St8.err n.s n_4.2))), AV.sl (List.length (St8.c (bif true then K2.s n else St8.err n.s n_4.2))) 4 (chG (St8.c (bif true then K2.s n else St8.err n.s n_4.2))), AV.int .i64 (St8.day (bif true then K2.s n else St8.err n.s n_4.2)), AV.int .i64 (St8.e (bif true then K2.s n else St8.err n.s n_4.2))]] [.box [AV.sl x.s.f.length 3 (fxG x.s.f), AV.sl x.s.c.length 4 (chG x.s.c), AV.int .i64 x.s.day, AV.int .i64 x.s.e]] ∧ 1 = 1 ∧ True) fun n => .all (fun (r : Int) => r = if St8.e n.s = 0 then KS.e n else St8.e n.s) fun n_5 => .leaf (.ret [.str n.x] [.box [.sl (List.length (St8.f (n.s.err n_5))) 3 (fxG (St8.f (n.s.err n_5))), .sl (List.length (St8.c (n.s.err n_5))) 4 (chG (St8.c (n.s.err n_5))), .int .i64 (St8.day (n.s.err n_5)), .int .i64 (St8.e (n.s.err n_5))], .box [.int .u8 k, .str r, .str m, .int .i64 d, .sl s.length 5 (Ex.exG s)]])) (.ite (decide (k = 5)) (.ex (fun (x : K2) => eqL [AV.ptr 0 0, AV.str n_2.1, AV.str n_3.1] [AV.ptr 0 0, AV.str x.a, AV.str x.b] ∧ eqH [.box [AV.sl (List.length (St8.f (n.s.err n_3.2))) 3 (fxG (St8.f (n.s.err n_3.2))), AV.sl (List.length (St8.c (n.s.err n_3.2))) 4 (chG (St8.c (n.s.err n_3.2))), AV.int .i64 (St8.day (n.s.err n_3.2)), AV.int .i64 (St8.e (n.s.err n_3.2))]] [.box [AV.sl x.s.f.length 3 (fxG x.s.f), AV.sl x.s.c.length 4 (chG x.s.c), AV.int .i64 x.s.day, AV.int .i64 x.s.e]] ∧ 1 = 1 ∧ St8.e x.s = 0 ∧ x.a.length < 2305843009213693952 ∧ x.b.length < 2305843009213693952) fun n => .all (fun (r : List UInt8 × Int) => r.2 = Prod.snd (subR n.a n.b) ∧ (r.2 = 0 → r.1 = Prod.fst (subR n.a n.b))) fun n_4 => .ex (fun (x : KS) => eqL [AV.ptr 0 0, AV.str n_4.1, AV.int .i64 n_4.2] [AV.ptr 0 0, AV.str x.x, AV.int .i64 x.e] ∧ eqH [.box [AV.sl (List.length (St8.f (bif true then K2.s n else St8.err n.s n_4.2))) 3 (fxG (St8.f (bif true then K2.s n else St8.err n.s n_4.2))), AV.sl (List.length (St8.c (bif true then K2.s n else St8.err n.s n_4.2))) 4 (chG (St8.c (bif true then K2.s n else St8.err n.s n_4.2))), AV.int .i64 (St8.day (bif true then K2.s n else St8.err n.s n_4.2)), AV.int .i64 (St8.e (bif true then K2.s n else St8.err n.s n_4.2))]] [.box [AV.sl x.s.f.length 3 (fxG x.s.f), AV.sl x.s.c.length 4 (chG x.s.c), AV.int .i64 x.s.day, AV.int .i64 x.s.e]] ∧ 1 = 1 ∧ True) fun n => .all (fun (r : Int) => r = if St8.e n.s = 0 then KS.e n else St8.e n.s) fun n_5 => .leaf (.ret [.str n.x] [.box [.sl (List.length (St8.f (n.s.err n_5))) 3 (fxG (St8.f (n.s.err n_5))), .sl (List.length (St8.c (n.s.err n_5))) 4 (chG (St8.c (n.s.err n_5))), .int .i64 (St8.day (n.s.err n_5)), .int .i64 (St8.e (n.s.err n_5))], .box [.int .u8 k, .str r, .str m, .int .i64 d, .sl s.length 5 (Ex.exG s)]])) (.ite (decide (k = 6)) (.ex (fun (x : K2) => eqL [AV.ptr 0 0, AV.str n_2.1, AV.str n_3.1] [AV.ptr 0 0, AV.str x.a, AV.str x.b] ∧ eqH [.box [AV.sl (List.length (St8.f (n.s.err n_3.2))) 3 (fxG (St8.f (n.s.err n_3.2))), AV.sl (List.length (St8.c (n.s.err n_3.2))) 4 (chG (St8.c (n.s.err n_3.2))), AV.int .i64 (St8.day (n.s.err n_3.2)), AV.int .i64 (St8.e (n.s.err n_3.2))]] [.box [AV.sl x.s.f.length 3 (fxG x.s.f), AV.sl x.s.c.length 4 (chG x.s.c), AV.int .i64 x.s.day, AV.int .i64 x.s.e]] ∧ 1 = 1 ∧ St8.e x.s = 0 ∧ x.a.length < 2305843009213693952 ∧ x.b.length < 2305843009213693952) fun n => .all (fun (r : List UInt8 × Int) => r.2 = Prod.snd (mulR n.a n.b) ∧ (r.2 = 0 → r.1 = Prod.fst (mulR n.a n.b))) fun n_4 => .ex (fun (x : KS) => eqL [AV.ptr 0 0, AV.str n_4.1, AV.int .i64 n_4.2] [AV.ptr 0 0, AV.str x.x, AV.int .i64 x.e] ∧ eqH [.box [AV.sl (List.length (St8.f (bif true then K2.s n else St8.err n.s n_4.2))) 3 (fxG (St8.f (bif true then K2.s n else St8.err n.s n_4.2))), AV.sl (List.length (St8.c (bif true then K2.s n else St8.err n.s n_4.2))) 4 (chG (St8.c (bif true then K2.s n else St8.err n.s n_4.2))), AV.int .i64 (St8.day (bif true then K2.s n else St8.err n.s n_4.2)), AV.int .i64 (St8.e (bif true then K2.s n else St8.err n.s n_4.2))]] [.box [AV.sl x.s.f.length 3 (fxG x.s.f), AV.sl x.s.c.length 4 (chG x.s.c), AV.int .i64 x.s.day, AV.int .i64 x.s.e]] ∧ 1 = 1 ∧ True) fun n => .all (fun (r : Int) => r = if St8.e n.s = 0 then KS.e n else St8.e n.s) fun n_5 => .leaf (.ret [.str n.x] [.box [.sl (List.length (St8.f (n.s.err n_5))) 3 (fxG (St8.f (n.s.err n_5))), .sl (List.length (St8.c (n.s.err n_5))) 4 (chG (St8.c (n.s.err n_5))), .int .i64 (St8.day (n.s.err n_5)), .int .i64 (St8.e (n.s.err n_5))], .box [.int .u8 k, .str r, .str m, .int .i64 d, .sl s.length 5 (Ex.exG s)]])) (.ite (decide (k = 7)) (.ex (fun (x : K2) => eqL [AV.ptr 0 0, AV.str n_2.1, AV.str n_3.1] [AV.ptr 0 0, AV.str x.a, AV.str x.b] ∧ eqH [.box [AV.sl (List.length (St8.f (n.s.err n_3.2))) 3 (fxG (St8.f (n.s.err n_3.2))), AV.sl (List.length (St8.c (n.s.err n_3.2))) 4 (chG (St8.c (n.s.err n_3.2))), AV.int .i64 (St8.day (n.s.err n_3.2)), AV.int .i64 (St8.e (n.s.err n_3.2))]] [.box [AV.sl x.s.f.length 3 (fxG x.s.f), AV.sl x.s.c.length 4 (chG x.s.c), AV.int .i64 x.s.day, AV.int .i64 x.s.e]] ∧ 1 = 1 ∧ St8.e x.s = 0 ∧ x.a.length < 2305843009213693952 ∧ x.b.length < 2305843009213693952) fun n => .all (fun (r : List UInt8 × Int) => r.2 = Prod.snd (j4 (7 : Int) n.a n.b) ∧ (r.2 = 0 → r.1 = Prod.fst (j4 (7 : Int) n.a n.b))) fun n_4 => .ex (fun (x : KS) => eqL [AV.ptr 0 0, AV.str n_4.1, AV.int .i64 n_4.2] [AV.ptr 0 0, AV.str x.x, AV.int .i64 x.e] ∧ eqH [.box [AV.sl (List.length (St8.f (bif false then K2.s n else St8.err n.s n_4.2))) 3 (fxG (St8.f (bif false then K2.s n else St8.err n.s n_4.2))), AV.sl (List.length (St8.c (bif false then K2.s n else St8.err n.s n_4.2))) 4 (chG (St8.c (bif false then K2.s n else St8.err n.s n_4.2))), AV.int .i64 (St8.day (bif false then K2.s n else St8.err n.s n_4.2)), AV.int .i64 (St8.e (bif false then K2.s n else St8.err n.s n_4.2))]] [.box [AV.sl x.s.f.length 3 (fxG x.s.f), AV.sl x.s.c.length 4 (chG x.s.c), AV.int .i64 x.s.day, AV.int .i64 x.s.e]] ∧ 1 = 1 ∧ True) fun n => .all (fun (r : Int) => r = if St8.e n.s = 0 then KS.e n else St8.e n.s) fun n_5 => .leaf (.ret [.str n.x] [.box [.sl (List.length (St8.f (n.s.err n_5))) 3 (fxG (St8.f (n.s.err n_5))), .sl (List.length (St8.c (n.s.err n_5))) 4 (chG (St8.c (n.s.err n_5))), .int .i64 (St8.day (n.s.err n_5)), .int .i64 (St8.e (n.s.err n_5))], .box [.int .u8 k, .str r, .str m, .int .i64 d, .sl s.length 5 (Ex.exG s)]])) (.ite (decide (k = 8)) (.ex (fun (x : K2) => eqL [AV.ptr 0 0, AV.str n_2.1, AV.str n_3.1] [AV.ptr 0 0, AV.str x.a, AV.str x.b] ∧ eqH [.box [AV.sl (List.length (St8.f (n.s.err n_3.2))) 3 (fxG (St8.f (n.s.err n_3.2))), AV.sl (List.length (St8.c (n.s.err n_3.2))) 4 (chG (St8.c (n.s.err n_3.2))), AV.int .i64 (St8.day (n.s.err n_3.2)), AV.int .i64 (St8.e (n.s.err n_3.2))]] [.box [AV.sl x.s.f.length 3 (fxG x.s.f), AV.sl x.s.c.length 4 (chG x.s.c), AV.int .i64 x.s.day, AV.int .i64 x.s.e]] ∧ 1 = 1 ∧ St8.e x.s = 0 ∧ x.a.length < 2305843009213693952 ∧ x.b.length < 2305843009213693952) fun n => .all (fun (r : List UInt8 × Int) => r.2 = Prod.snd (j4 (8 : Int) n.a n.b) ∧ (r.2 = 0 → r.1 = Prod.fst (j4 (8 : Int) n.a n.b))) fun n_4 => .ex (fun (x : KS) => eqL [AV.ptr 0 0, AV.str n_4.1, AV.int .i64 n_4.2] [AV.ptr 0 0, AV.str x.x, AV.int .i64 x.e] ∧ eqH [.box [AV.sl (List.length (St8.f (bif false then K2.s n else St8.err n.s n_4.2))) 3 (fxG (St8.f (bif false then K2.s n else St8.err n.s n_4.2))), AV.sl (List.length (St8.c (bif false then K2.s n else St8.err n.s n_4.2))) 4 (chG (St8.c (bif false then K2.s n else St8.err n.s n_4.2))), AV.int .i64 (St8.day (bif false then K2.s n else St8.err n.s n_4.2)), AV.int .i64 (St8.e (bif false then K2.s n else St8.err n.s n_4.2))]] [.box [AV.sl x.s.f.length 3 (fxG x.s.f), AV.sl x.s.c.length 4 (chG x.s.c), AV.int .i64 x.s.day, AV.int .i64 x.s.e]] ∧ 1 = 1 ∧ True) fun n => .all (fun (r : Int) => r = if St8.e n.s = 0 then KS.e n else St8.e n.s) fun n_5 => .leaf (.ret [.str n.x] [.box [.sl (List.length (St8.f (n.s.err n_5))) 3 (fxG (St8.f (n.s.err n_5))), .sl (List.length (St8.c (n.s.err n_5))) 4 (chG (St8.c (n.s.err n_5))), .int .i64 (St8.day (n.s.err n_5)), .int .i64 (St8.e (n.s.err n_5))], .box [.int .u8 k, .str r, .str m, .int .i64 d, .sl s.length 5 (Ex.exG s)]])) .fail))))) .fail))))))))) (by kernel_rfl) ?_
 simp only [Tree.holds, zd]
 refine ⟨fun h => ?_, fun h => ?_⟩
 ·have h : e ≠ 0 := by simpa using h
  exact RetR.st9 rfl (hq ([], e) ⟨fun _ => rfl, fun h0 => absurd h0 h⟩) rfl rfl
 have h : e = 0 := by simpa using h
 subst h
 obtain ⟨hs, hf, hfl⟩ := hv rfl
 simp only at hs hf hfl
 have hq0 : ∀ t : List UInt8 × Int, t.2 = ((Ex.mk k r m d s).ev f day).e → (t.2 = 0 → t.1 = ((Ex.mk k r m d s).ev f day).v) → Q (.str t.1, [(St8.mk f c day t.2).box]) := fun t h1 h2 => hq t ⟨fun h => absurd rfl h, fun _ => ⟨h1, h2⟩⟩
 clear hq
 have hev : (Ex.mk k r m d s).ev f day = evN f day k r m d (Ex.evs f day s) := by rw [Ex.ev]
 have hc := Ex.ZI hs
 simp only [Ex.kind, Ex.sub, Ex.rat] at hc
 rw [Ex.size] at hn
 have z0 := fun g => Ex.qj (s := s) (i := 0) g
 have z1 := fun g => Ex.qj (s := s) (i := 1) g
 have z2 := fun g => Ex.qj (s := s) (i := 2) g
 have hfix : ∀ (x : List UInt8) (y : Int) (b : Blk), fixR f x y = (((Ex.mk k r m d s).ev f day).v, ((Ex.mk k r m d s).ev f day).e) → ∀ z, z = fixR f x y → RetR (valC fun k => k.x.size < n + 1 ∧ VPre 1 k) 1 Q [.str z.1] [.box [.sl f.length 3 (fxG f), .sl c.length 4 (chG c), .int .i64 day, .int .i64 z.2], b] := by
  rintro x y b h1 z rfl
  exact RetR.st9 rfl (hq0 _ (congrArg Prod.snd h1) fun _ => congrArg Prod.fst h1) rfl rfl
 rcases hc with ⟨rfl, hr⟩ | rfl | rfl | ⟨⟨k1, k2⟩, hl, hs0, hs1⟩ | ⟨rfl, hl, hs0, hs1, hs2⟩
 ·refine ⟨fun _ => ?_, fun h => (by cases h)⟩
  exact RetR.st9 rfl (hq0 (r, 0) (by rw [hev]; rfl) fun _ => by rw [hev]; rfl) rfl rfl
 ·refine ⟨fun h => (by cases h), fun _ => ⟨fun _ => ?_, fun h => (by cases h)⟩⟩
  refine ⟨⟨⟨f, c, day, 0⟩, m, d⟩, ⟨⟨⟨rfl, rfl⟩, rfl, ⟨rfl, rfl⟩, trivial⟩, qg f c day 0, by trivial, hfl, rfl⟩, ⟨_, rfl⟩, ?_⟩
  exact hfix m d _ (by rw [hev]; rfl)
 ·refine ⟨fun h => (by cases h), fun _ => ⟨fun h => (by cases h), fun _ => ⟨fun _ => ?_, fun h => (by cases h)⟩⟩⟩
  refine ⟨⟨⟨f, c, day, 0⟩, m, day⟩, ⟨⟨⟨rfl, rfl⟩, rfl, ⟨rfl, rfl⟩, trivial⟩, qg f c day 0, by trivial, hfl, rfl⟩, ⟨_, rfl⟩, ?_⟩
  exact hfix m day _ (by rw [hev]; rfl)
 ·iterate 4 refine ⟨fun h => absurd (of_decide_eq_true h) (by omega), fun _ => ?_⟩
  have z0 := z0 (by omega)
  have z1 := z1 (by omega)
  have he : (((Ex.mk k r m d s).ev f day).v, ((Ex.mk k r m d s).ev f day).e) = uh [] ((s.getD 0 Ex.nil).ev f day) ((s.getD 1 Ex.nil).ev f day) (opR k) := by
   rw [hev]
   simp only [evN, valN]
   rw [if_neg (by omega), if_neg (by omega), if_neg (by omega), if_neg (by omega), Ex.qx (by omega), Ex.qx (by omega)]
  unfold uh at he
  refine ⟨⟨by decide, by omega⟩, fun _ => ⟨⟨⟨f, c, day, 0⟩, s.getD 0 Ex.nil⟩, ⟨eqX2 _, qg f c day 0, by trivial, by show (s.getD 0 Ex.nil).size < n; omega, fun _ => ⟨hs0, hf, hfl⟩⟩, vU _ _ _, ?_⟩⟩
  intro r0 g0
  obtain ⟨g0, k0⟩ := g0.2 rfl
  simp only [evA] at g0 k0
  refine ⟨⟨by decide, by omega⟩, fun _ => ⟨⟨⟨f, c, day, r0.2⟩, s.getD 1 Ex.nil⟩, ⟨eqX2 _, qg f c day r0.2, by trivial, by show (s.getD 1 Ex.nil).size < n; omega, fun _ => ⟨hs1, hf, hfl⟩⟩, vU _ _ _, ?_⟩⟩
  intro r1 g1
  simp only [evA] at g1
  refine ⟨fun h => ?_, fun h => ?_⟩
  ·have h : r1.2 ≠ 0 := by
    intro h0
    have h' : (!decide (r1.2 = 0)) = true := h
    rw [h0] at h'; cases h'
   refine RetR.st9 rfl (hq0 ([], r1.2) ?_ fun h0 => absurd h0 h) rfl rfl
   have he := congrArg Prod.snd he
   simp only at he ⊢
   rw [he]
   by_cases h3 : r0.2 = 0
   ·obtain ⟨q1, _⟩ := g1.2 h3
    rw [if_neg (by rw [← g0]; simpa using h3), if_pos (by rw [← q1]; exact h), q1]
   ·rw [if_pos (by rw [← g0]; exact h3), g1.1 h3, g0]
  ·have h : r1.2 = 0 := by
    have h' : (!decide (r1.2 = 0)) = false := h
    simpa using h'
   have h3 : r0.2 = 0 := by
    refine Decidable.byContradiction fun h3 => ?_
    exact h3 (by rw [← g1.1 h3]; exact h)
   obtain ⟨q1, k1'⟩ := g1.2 h3
   have k0 := k0 h3
   have k1' := k1' h
   rw [if_neg (by rw [← g0]; simpa using h3), if_neg (by rw [← q1]; simpa using h), ← k0, ← k1'] at he
   have l0 := x2 (by rw [k0]; exact Ex.y5 hf day _ hs0 (by rw [← g0]; exact h3) : errR r0.1 = 0)
   have l1 := x2 (by rw [k1']; exact Ex.y5 hf day _ hs1 (by rw [← q1]; exact h) : errR r1.1 = 0)
   refine ⟨fun _ => ?_, fun hno => absurd (of_decide_eq_false hno) (by simp only [Classical.not_not]; exact ⟨k1, k2⟩)⟩
   refine ⟨fun hk => ?_, fun hk => ?_⟩
   ·have hk : k = 4 := of_decide_eq_true hk
    subst hk
    have ho : opR 4 r0.1 r1.1 = addR r0.1 r1.1 := rfl
    rw [ho] at he
    refine ⟨⟨⟨f, c, day, 0⟩, r0.1, r1.1⟩, ⟨⟨⟨rfl, rfl⟩, rfl, rfl, trivial⟩, ⟨⟨⟨rfl, rfl, za _ _ _⟩, ⟨rfl, rfl, za _ _ _⟩, ⟨rfl, rfl⟩, ⟨rfl, h⟩, trivial⟩, trivial⟩, by trivial, rfl, by show r0.1.length < _; omega, by show r1.1.length < _; omega⟩, ⟨addR r0.1 r1.1, rfl, fun _ => rfl⟩, ?_⟩
    intro t ht
    obtain ⟨t1, t2⟩ := ht
    simp only at t1 t2
    refine ⟨⟨⟨f, c, day, 0⟩, t.1, t.2⟩, ⟨⟨⟨rfl, rfl⟩, rfl, ⟨rfl, rfl⟩, trivial⟩, qg f c day _, by trivial, trivial⟩, ⟨_, rfl⟩, ?_⟩
    intro z hz
    have hz : z = t.2 := by
     rw [hz]
     show (if 0 = (0 : Int) then t.2 else 0) = t.2
     by_cases g : t.2 = 0 <;> simp [g]
    subst hz
    exact RetR.st9 rfl (hq0 t (by rw [t1]; exact (congrArg Prod.snd he).symm) fun g => by rw [t2 g]; exact (congrArg Prod.fst he).symm) rfl rfl
   have hk : ¬ k = 4 := of_decide_eq_false hk
   refine ⟨fun hk => ?_, fun hk => ?_⟩
   ·have hk : k = 5 := of_decide_eq_true hk
    subst hk
    have ho : opR 5 r0.1 r1.1 = subR r0.1 r1.1 := rfl
    rw [ho] at he
    refine ⟨⟨⟨f, c, day, 0⟩, r0.1, r1.1⟩, ⟨⟨⟨rfl, rfl⟩, rfl, rfl, trivial⟩, ⟨⟨⟨rfl, rfl, za _ _ _⟩, ⟨rfl, rfl, za _ _ _⟩, ⟨rfl, rfl⟩, ⟨rfl, h⟩, trivial⟩, trivial⟩, by trivial, rfl, by show r0.1.length < _; omega, by show r1.1.length < _; omega⟩, ⟨subR r0.1 r1.1, rfl, fun _ => rfl⟩, ?_⟩
    intro t ht
    obtain ⟨t1, t2⟩ := ht
    simp only at t1 t2
    refine ⟨⟨⟨f, c, day, 0⟩, t.1, t.2⟩, ⟨⟨⟨rfl, rfl⟩, rfl, ⟨rfl, rfl⟩, trivial⟩, qg f c day _, by trivial, trivial⟩, ⟨_, rfl⟩, ?_⟩
    intro z hz
    have hz : z = t.2 := by
     rw [hz]
     show (if 0 = (0 : Int) then t.2 else 0) = t.2
     by_cases g : t.2 = 0 <;> simp [g]
    subst hz
    exact RetR.st9 rfl (hq0 t (by rw [t1]; exact (congrArg Prod.snd he).symm) fun g => by rw [t2 g]; exact (congrArg Prod.fst he).symm) rfl rfl
   have hk : ¬ k = 5 := of_decide_eq_false hk
   refine ⟨fun hk => ?_, fun hk => ?_⟩
   ·have hk : k = 6 := of_decide_eq_true hk
    subst hk
    have ho : opR 6 r0.1 r1.1 = mulR r0.1 r1.1 := rfl
    rw [ho] at he
    refine ⟨⟨⟨f, c, day, 0⟩, r0.1, r1.1⟩, ⟨⟨⟨rfl, rfl⟩, rfl, rfl, trivial⟩, ⟨⟨⟨rfl, rfl, za _ _ _⟩, ⟨rfl, rfl, za _ _ _⟩, ⟨rfl, rfl⟩, ⟨rfl, h⟩, trivial⟩, trivial⟩, by trivial, rfl, by show r0.1.length < _; omega, by show r1.1.length < _; omega⟩, ⟨mulR r0.1 r1.1, rfl, fun _ => rfl⟩, ?_⟩
    intro t ht
    obtain ⟨t1, t2⟩ := ht
    simp only at t1 t2
    refine ⟨⟨⟨f, c, day, 0⟩, t.1, t.2⟩, ⟨⟨⟨rfl, rfl⟩, rfl, ⟨rfl, rfl⟩, trivial⟩, qg f c day _, by trivial, trivial⟩, ⟨_, rfl⟩, ?_⟩
    intro z hz
    have hz : z = t.2 := by
     rw [hz]
     show (if 0 = (0 : Int) then t.2 else 0) = t.2
     by_cases g : t.2 = 0 <;> simp [g]
    subst hz
    exact RetR.st9 rfl (hq0 t (by rw [t1]; exact (congrArg Prod.snd he).symm) fun g => by rw [t2 g]; exact (congrArg Prod.fst he).symm) rfl rfl
   have hk : ¬ k = 6 := of_decide_eq_false hk
   refine ⟨fun hk => ?_, fun hk => ?_⟩
   ·have hk : k = 7 := of_decide_eq_true hk
    subst hk
    have ho : opR 7 r0.1 r1.1 = (j4 7) r0.1 r1.1 := rfl
    rw [ho] at he
    refine ⟨⟨⟨f, c, day, 0⟩, r0.1, r1.1⟩, ⟨⟨⟨rfl, rfl⟩, rfl, rfl, trivial⟩, ⟨⟨⟨rfl, rfl, za _ _ _⟩, ⟨rfl, rfl, za _ _ _⟩, ⟨rfl, rfl⟩, ⟨rfl, h⟩, trivial⟩, trivial⟩, by trivial, rfl, by show r0.1.length < _; omega, by show r1.1.length < _; omega⟩, ⟨(j4 7) r0.1 r1.1, rfl, fun _ => rfl⟩, ?_⟩
    intro t ht
    obtain ⟨t1, t2⟩ := ht
    simp only at t1 t2
    refine ⟨⟨⟨f, c, day, t.2⟩, t.1, t.2⟩, ⟨⟨⟨rfl, rfl⟩, rfl, ⟨rfl, rfl⟩, trivial⟩, qg f c day _, by trivial, trivial⟩, ⟨_, rfl⟩, ?_⟩
    intro z hz
    have hz : z = t.2 := by
     rw [hz]
     show (if t.2 = (0 : Int) then t.2 else t.2) = t.2
     by_cases g : t.2 = 0 <;> simp [g]
    subst hz
    exact RetR.st9 rfl (hq0 t (by rw [t1]; exact (congrArg Prod.snd he).symm) fun g => by rw [t2 g]; exact (congrArg Prod.fst he).symm) rfl rfl
   have hk : ¬ k = 7 := of_decide_eq_false hk
   refine ⟨fun hk => ?_, fun hk => ?_⟩
   ·have hk : k = 8 := of_decide_eq_true hk
    subst hk
    have ho : opR 8 r0.1 r1.1 = (j4 8) r0.1 r1.1 := rfl
    rw [ho] at he
    refine ⟨⟨⟨f, c, day, 0⟩, r0.1, r1.1⟩, ⟨⟨⟨rfl, rfl⟩, rfl, rfl, trivial⟩, ⟨⟨⟨rfl, rfl, za _ _ _⟩, ⟨rfl, rfl, za _ _ _⟩, ⟨rfl, rfl⟩, ⟨rfl, h⟩, trivial⟩, trivial⟩, by trivial, rfl, by show r0.1.length < _; omega, by show r1.1.length < _; omega⟩, ⟨(j4 8) r0.1 r1.1, rfl, fun _ => rfl⟩, ?_⟩
    intro t ht
    obtain ⟨t1, t2⟩ := ht
    simp only at t1 t2
    refine ⟨⟨⟨f, c, day, t.2⟩, t.1, t.2⟩, ⟨⟨⟨rfl, rfl⟩, rfl, ⟨rfl, rfl⟩, trivial⟩, qg f c day _, by trivial, trivial⟩, ⟨_, rfl⟩, ?_⟩
    intro z hz
    have hz : z = t.2 := by
     rw [hz]
     show (if t.2 = (0 : Int) then t.2 else t.2) = t.2
     by_cases g : t.2 = 0 <;> simp [g]
    subst hz
    exact RetR.st9 rfl (hq0 t (by rw [t1]; exact (congrArg Prod.snd he).symm) fun g => by rw [t2 g]; exact (congrArg Prod.fst he).symm) rfl rfl
   have hk : ¬ k = 8 := of_decide_eq_false hk
   omega
 ·iterate 3 refine ⟨fun h => (by cases h), fun _ => ?_⟩
  refine ⟨fun _ => ?_, fun h => (by cases h)⟩
  have z0 := z0 (by omega)
  have z1 := z1 (by omega)
  have z2 := z2 (by omega)
  have he : (((Ex.mk 9 r m d s).ev f day).v, ((Ex.mk 9 r m d s).ev f day).e) = if ((s.getD 0 Ex.nil).ev f day).g ≠ 0 then ([], ((s.getD 0 Ex.nil).ev f day).g) else if ((s.getD 0 Ex.nil).ev f day).b then (((s.getD 1 Ex.nil).ev f day).v, ((s.getD 1 Ex.nil).ev f day).e) else (((s.getD 2 Ex.nil).ev f day).v, ((s.getD 2 Ex.nil).ev f day).e) := by
   rw [hev]
   simp only [evN, valN]
   rw [if_neg (by decide), if_neg (by decide), if_neg (by decide), if_pos trivial, Ex.qx (by omega), Ex.qx (by omega), Ex.qx (by omega)]
  refine ⟨⟨by decide, by omega⟩, fun _ => ⟨⟨⟨f, c, day, 0⟩, s.getD 0 Ex.nil⟩, ⟨eqX2 _, qg f c day 0, by trivial, by show (s.getD 0 Ex.nil).size < n; omega, fun _ => ⟨hs0, hf, hfl⟩⟩, uK _ _ _, ?_⟩⟩
  intro r0 g0
  obtain ⟨g0, k0⟩ := g0.2 rfl
  simp only [evA] at g0 k0
  have fin : ∀ (y : Ex), (r0.2 = 0 → (((Ex.mk 9 r m d s).ev f day).v, ((Ex.mk 9 r m d s).ev f day).e) = ((y.ev f day).v, (y.ev f day).e)) → ∀ (b : Blk) (t : List UInt8 × Int), ((r0.2 ≠ 0 → t.2 = r0.2) ∧ (r0.2 = 0 → t.2 = (y.ev f day).e ∧ (t.2 = 0 → t.1 = (y.ev f day).v))) →
    RetR (valC fun k => k.x.size < n + 1 ∧ VPre 1 k) 1 Q [.str t.1] [.box [.sl f.length 3 (fxG f), .sl c.length 4 (chG c), .int .i64 day, .int .i64 t.2], b] := by
   intro y hy b t ht
   refine RetR.st9 rfl (hq0 t ?_ fun h0 => ?_) rfl rfl
   ·by_cases h3 : r0.2 = 0
    ·rw [(ht.2 h3).1]; exact (congrArg Prod.snd (hy h3)).symm
    ·rw [ht.1 h3, g0]
     rw [if_pos (by rw [← g0]; exact h3)] at he
     exact (congrArg Prod.snd he).symm
   ·have h3 : r0.2 = 0 := by
     refine Decidable.byContradiction fun h3 => ?_
     exact h3 (by rw [← ht.1 h3]; exact h0)
    rw [(ht.2 h3).2 h0]; exact (congrArg Prod.fst (hy h3)).symm
  refine ⟨fun hb => ?_, fun hb => ?_⟩
  ·refine ⟨⟨by decide, by omega⟩, fun _ => ⟨⟨⟨f, c, day, r0.2⟩, s.getD 1 Ex.nil⟩, ⟨eqX2 _, qg f c day r0.2, by trivial, by show (s.getD 1 Ex.nil).size < n; omega, fun _ => ⟨hs1, hf, hfl⟩⟩, vU _ _ _, ?_⟩⟩
   intro t ht
   exact fin _ (fun h3 => by rw [he, if_neg (by rw [← g0]; simpa using h3), if_pos (by rw [← k0 h3]; exact hb)]) _ t ht
  ·refine ⟨⟨by decide, by omega⟩, fun _ => ⟨⟨⟨f, c, day, r0.2⟩, s.getD 2 Ex.nil⟩, ⟨eqX2 _, qg f c day r0.2, by trivial, by show (s.getD 2 Ex.nil).size < n; omega, fun _ => ⟨hs2, hf, hfl⟩⟩, vU _ _ _, ?_⟩⟩
   intro t ht
   exact fin _ (fun h3 => by rw [he, if_neg (by rw [← g0]; simpa using h3), if_neg (by rw [← k0 h3, hb]; decide)]) _ t ht
theorem W8 : zb Tryd.prog 40 (hldC fun k => k.x.size < n + 1 ∧ VPre 2 k) := by
 refine zB (fn := Tryd.f40) (c := Tryd.f40.body.getD .skip) rfl rfl rfl (fun h => by cases h) fun k hk O w0 σ0 Q hl0 hq => ?_
 obtain ⟨⟨f, c, day, e⟩, ⟨k, r, m, d, s⟩⟩ := k
 obtain ⟨hn, hv⟩ := hk
 simp only at hn hv hq
 refine zc.run hmix (YG h1 h2) [] 400 (T := .ite (!decide (e = 0)) (.leaf (.ret [.bool false] [.box [.sl f.length 3 (fxG f), .sl c.length 4 (chG c), .int .i64 day, .int .i64 e], .box [.int .u8 k, .str r, .str m, .int .i64 d, .sl s.length 5 (Ex.exG s)]])) (.ite (decide (k = 13)) (.side ((0 : Int) ≤ 0 ∧ (0 : Int) < s.length) (.ex (fun (x : VX) => eqL [AV.ptr 0 0, AV.agg [AV.int .u8 (Ex.kind (s.getD 0 Ex.nil)), AV.str (Ex.rat (s.getD 0 Ex.nil)), AV.str (Ex.name (s.getD 0 Ex.nil)), AV.int .i64 (Ex.date (s.getD 0 Ex.nil)), AV.sl (List.length (Ex.sub (s.getD 0 Ex.nil))) 5 (Ex.deep (s.getD 0 Ex.nil))]] [AV.ptr 0 0, AV.agg [AV.int .u8 x.x.kind, AV.str x.x.rat, AV.str x.x.name, AV.int .i64 x.x.date, AV.sl x.x.sub.length 5 (Ex.exG x.x.sub)]] ∧ eqH [.box [AV.sl f.length 3 (fxG f), AV.sl c.length 4 (chG c), AV.int .i64 day, AV.int .i64 e]] [.box [AV.sl x.s.f.length 3 (fxG x.s.f), AV.sl x.s.c.length 4 (chG x.s.c), AV.int .i64 x.s.day, AV.int .i64 x.s.e]] ∧ 1 = 1 ∧ Ex.size x.x < n ∧ VPre (2 : Int) x) fun n_1 => .all (fun (r : Bool × Int) => (St8.e n_1.s ≠ 0 → r.2 = St8.e n_1.s) ∧ (St8.e n_1.s = 0 → r.2 = Ev.g (evA n_1) ∧ (r.2 = 0 → r.1 = Ev.b (evA n_1)))) fun n_2 => .side (n_2.1 = true → (0 : Int) ≤ 1 ∧ (1 : Int) < s.length) (.ite (n_2.1 == true) (.ex (fun (x : VX) => eqL [AV.ptr 0 0, AV.agg [AV.int .u8 (Ex.kind (s.getD 1 Ex.nil)), AV.str (Ex.rat (s.getD 1 Ex.nil)), AV.str (Ex.name (s.getD 1 Ex.nil)), AV.int .i64 (Ex.date (s.getD 1 Ex.nil)), AV.sl (List.length (Ex.sub (s.getD 1 Ex.nil))) 5 (Ex.deep (s.getD 1 Ex.nil))]] [AV.ptr 0 0, AV.agg [AV.int .u8 x.x.kind, AV.str x.x.rat, AV.str x.x.name, AV.int .i64 x.x.date, AV.sl x.x.sub.length 5 (Ex.exG x.x.sub)]] ∧ eqH [.box [AV.sl (List.length (St8.f (n_1.s.err n_2.2))) 3 (fxG (St8.f (n_1.s.err n_2.2))), AV.sl (List.length (St8.c (n_1.s.err n_2.2))) 4 (chG (St8.c (n_1.s.err n_2.2))), AV.int .i64 (St8.day (n_1.s.err n_2.2)), AV.int .i64 (St8.e (n_1.s.err n_2.2))]] [.box [AV.sl x.s.f.length 3 (fxG x.s.f), AV.sl x.s.c.length 4 (chG x.s.c), AV.int .i64 x.s.day, AV.int .i64 x.s.e]] ∧ 1 = 1 ∧ Ex.size x.x < n ∧ VPre (2 : Int) x) fun n => .all (fun (r : Bool × Int) => (St8.e n.s ≠ 0 → r.2 = St8.e n.s) ∧ (St8.e n.s = 0 → r.2 = Ev.g (evA n) ∧ (r.2 = 0 → r.1 = Ev.b (evA n)))) fun n_3 => .leaf (.ret [.bool (bif n_2.1 then n_3.1 else false)] [.box [.sl (List.length (St8.f (n.s.err n_3.2))) 3 (fxG (St8.f (n.s.err n_3.2))), .sl (List.length (St8.c (n.s.err n_3.2))) 4 (chG (St8.c (n.s.err n_3.2))), .int .i64 (St8.day (n.s.err n_3.2)), .int .i64 (St8.e (n.s.err n_3.2))], .box [.int .u8 k, .str r, .str m, .int .i64 d, .sl s.length 5 (Ex.exG s)]])) (.leaf (.ret [.bool (bif n_2.1 then false else false)] [.box [.sl (List.length (St8.f (n_1.s.err n_2.2))) 3 (fxG (St8.f (n_1.s.err n_2.2))), .sl (List.length (St8.c (n_1.s.err n_2.2))) 4 (chG (St8.c (n_1.s.err n_2.2))), .int .i64 (St8.day (n_1.s.err n_2.2)), .int .i64 (St8.e (n_1.s.err n_2.2))], .box [.int .u8 k, .str r, .str m, .int .i64 d, .sl s.length 5 (Ex.exG s)]]))))) (.ite (decide (k = 14)) (.side ((0 : Int) ≤ 0 ∧ (0 : Int) < s.length) (.ex (fun (x : VX) => eqL [AV.ptr 0 0, AV.agg [AV.int .u8 (Ex.kind (s.getD 0 Ex.nil)), AV.str (Ex.rat (s.getD 0 Ex.nil)), AV.str (Ex.name (s.getD 0 Ex.nil)), AV.int .i64 (Ex.date (s.getD 0 Ex.nil)), AV.sl (List.length (Ex.sub (s.getD 0 Ex.nil))) 5 (Ex.deep (s.getD 0 Ex.nil))]] [AV.ptr 0 0, AV.agg [AV.int .u8 x.x.kind, AV.str x.x.rat, AV.str x.x.name, AV.int .i64 x.x.date, AV.sl x.x.sub.length 5 (Ex.exG x.x.sub)]] ∧ eqH [.box [AV.sl f.length 3 (fxG f), AV.sl c.length 4 (chG c), AV.int .i64 day, AV.int .i64 e]] [.box [AV.sl x.s.f.length 3 (fxG x.s.f), AV.sl x.s.c.length 4 (chG x.s.c), AV.int .i64 x.s.day, AV.int .i64 x.s.e]] ∧ 1 = 1 ∧ Ex.size x.x < n ∧ VPre (2 : Int) x) fun n_1 => .all (fun (r : Bool × Int) => (St8.e n_1.s ≠ 0 → r.2 = St8.e n_1.s) ∧ (St8.e n_1.s = 0 → r.2 = Ev.g (evA n_1) ∧ (r.2 = 0 → r.1 = Ev.b (evA n_1)))) fun n_2 => .side (n_2.1 = false → (0 : Int) ≤ 1 ∧ (1 : Int) < s.length) (.ite (n_2.1 == false) (.ex (fun (x : VX) => eqL [AV.ptr 0 0, AV.agg [AV.int .u8 (Ex.kind (s.getD 1 Ex.nil)), AV.str (Ex.rat (s.getD 1 Ex.nil)), AV.str (Ex.name (s.getD 1 Ex.nil)), AV.int .i64 (Ex.date (s.getD 1 Ex.nil)), AV.sl (List.length (Ex.sub (s.getD 1 Ex.nil))) 5 (Ex.deep (s.getD 1 Ex.nil))]] [AV.ptr 0 0, AV.agg [AV.int .u8 x.x.kind, AV.str x.x.rat, AV.str x.x.name, AV.int .i64 x.x.date, AV.sl x.x.sub.length 5 (Ex.exG x.x.sub)]] ∧ eqH [.box [AV.sl (List.length (St8.f (n_1.s.err n_2.2))) 3 (fxG (St8.f (n_1.s.err n_2.2))), AV.sl (List.length (St8.c (n_1.s.err n_2.2))) 4 (chG (St8.c (n_1.s.err n_2.2))), AV.int .i64 (St8.day (n_1.s.err n_2.2)), AV.int .i64 (St8.e (n_1.s.err n_2.2))]] [.box [AV.sl x.s.f.length 3 (fxG x.s.f), AV.sl x.s.c.length 4 (chG x.s.c), AV.int .i64 x.s.day, AV.int .i64 x.s.e]] ∧ 1 = 1 ∧ Ex.size x.x < n ∧ VPre (2 : Int) x) fun n => .all (fun (r : Bool × Int) => (St8.e n.s ≠ 0 → r.2 = St8.e n.s) ∧ (St8.e n.s = 0 → r.2 = Ev.g (evA n) ∧ (r.2 = 0 → r.1 = Ev.b (evA n)))) fun n_3 => .leaf (.ret [.bool (bif n_2.1 then true else n_3.1)] [.box [.sl (List.length (St8.f (n.s.err n_3.2))) 3 (fxG (St8.f (n.s.err n_3.2))), .sl (List.length (St8.c (n.s.err n_3.2))) 4 (chG (St8.c (n.s.err n_3.2))), .int .i64 (St8.day (n.s.err n_3.2)), .int .i64 (St8.e (n.s.err n_3.2))], .box [.int .u8 k, .str r, .str m, .int .i64 d, .sl s.length 5 (Ex.exG s)]])) (.leaf (.ret [.bool (bif n_2.1 then true else false)] [.box [.sl (List.length (St8.f (n_1.s.err n_2.2))) 3 (fxG (St8.f (n_1.s.err n_2.2))), .sl (List.length (St8.c (n_1.s.err n_2.2))) 4 (chG (St8.c (n_1.s.err n_2.2))), .int .i64 (St8.day (n_1.s.err n_2.2)), .int .i64 (St8.e (n_1.s.err n_2.2))], .box [.int .u8 k, .str r, .str m, .int .i64 d, .sl s.length 5 (Ex.exG s)]]))))) (.ite (decide (k = 15)) (.side ((0 : Int) ≤ 0 ∧ (0 : Int) < s.length) (.ex (fun (x : VX) => eqL [AV.ptr 0 0, AV.agg [AV.int .u8 (Ex.kind (s.getD 0 Ex.nil)), AV.str (Ex.rat (s.getD 0 Ex.nil)), AV.str (Ex.name (s.getD 0 Ex.nil)), AV.int .i64 (Ex.date (s.getD 0 Ex.nil)), AV.sl (List.length (Ex.sub (s.getD 0 Ex.nil))) 5 (Ex.deep (s.getD 0 Ex.nil))]] [AV.ptr 0 0, AV.agg [AV.int .u8 x.x.kind, AV.str x.x.rat, AV.str x.x.name, AV.int .i64 x.x.date, AV.sl x.x.sub.length 5 (Ex.exG x.x.sub)]] ∧ eqH [.box [AV.sl f.length 3 (fxG f), AV.sl c.length 4 (chG c), AV.int .i64 day, AV.int .i64 e]] [.box [AV.sl x.s.f.length 3 (fxG x.s.f), AV.sl x.s.c.length 4 (chG x.s.c), AV.int .i64 x.s.day, AV.int .i64 x.s.e]] ∧ 1 = 1 ∧ Ex.size x.x < n ∧ VPre (2 : Int) x) fun n => .all (fun (r : Bool × Int) => (St8.e n.s ≠ 0 → r.2 = St8.e n.s) ∧ (St8.e n.s = 0 → r.2 = Ev.g (evA n) ∧ (r.2 = 0 → r.1 = Ev.b (evA n)))) fun n_1 => .leaf (.ret [.bool (bif !Prod.fst n_1 then decide (St8.e (n.s.err n_1.2) = (0 : Int)) else false)] [.box [.sl (List.length (St8.f (n.s.err n_1.2))) 3 (fxG (St8.f (n.s.err n_1.2))), .sl (List.length (St8.c (n.s.err n_1.2))) 4 (chG (St8.c (n.s.err n_1.2))), .int .i64 (St8.day (n.s.err n_1.2)), .int .i64 (St8.e (n.s.err n_1.2))], .box [.int .u8 k, .str r, .str m, .int .i64 d, .sl s.length 5 (Ex.exG s)]]))) (.side ((0 : Int) ≤ 0 ∧ (0 : Int) < s.length) (.ex (fun (x : VX) => eqL [AV.ptr 0 0, AV.agg [AV.int .u8 (Ex.kind (s.getD 0 Ex.nil)), AV.str (Ex.rat (s.getD 0 Ex.nil)), AV.str (Ex.name (s.getD 0 Ex.nil)), AV.int .i64 (Ex.date (s.getD 0 Ex.nil)), AV.sl (List.length (Ex.sub (s.getD 0 Ex.nil))) 5 (Ex.deep (s.getD 0 Ex.nil))]] [AV.ptr 0 0, AV.agg [AV.int .u8 x.x.kind, AV.str x.x.rat, AV.str x.x.name, AV.int .i64 x.x.date, AV.sl x.x.sub.length 5 (Ex.exG x.x.sub)]] ∧ eqH [.box [AV.sl f.length 3 (fxG f), AV.sl c.length 4 (chG c), AV.int .i64 day, AV.int .i64 e]] [.box [AV.sl x.s.f.length 3 (fxG x.s.f), AV.sl x.s.c.length 4 (chG x.s.c), AV.int .i64 x.s.day, AV.int .i64 x.s.e]] ∧ 1 = 1 ∧ Ex.size x.x < n ∧ VPre (1 : Int) x) fun n_1 => .all (fun (r : List UInt8 × Int) => (St8.e n_1.s ≠ 0 → r.2 = St8.e n_1.s) ∧ (St8.e n_1.s = 0 → r.2 = Ev.e (evA n_1) ∧ (r.2 = 0 → r.1 = Ev.v (evA n_1)))) fun n_2 => .side ((0 : Int) ≤ 1 ∧ (1 : Int) < s.length) (.ex (fun (x : VX) => eqL [AV.ptr 0 0, AV.agg [AV.int .u8 (Ex.kind (s.getD 1 Ex.nil)), AV.str (Ex.rat (s.getD 1 Ex.nil)), AV.str (Ex.name (s.getD 1 Ex.nil)), AV.int .i64 (Ex.date (s.getD 1 Ex.nil)), AV.sl (List.length (Ex.sub (s.getD 1 Ex.nil))) 5 (Ex.deep (s.getD 1 Ex.nil))]] [AV.ptr 0 0, AV.agg [AV.int .u8 x.x.kind, AV.str x.x.rat, AV.str x.x.name, AV.int .i64 x.x.date, AV.sl x.x.sub.length 5 (Ex.exG x.x.sub)]] ∧ eqH [.box [AV.sl (List.length (St8.f (n_1.s.err n_2.2))) 3 (fxG (St8.f (n_1.s.err n_2.2))), AV.sl (List.length (St8.c (n_1.s.err n_2.2))) 4 (chG (St8.c (n_1.s.err n_2.2))), AV.int .i64 (St8.day (n_1.s.err n_2.2)), AV.int .i64 (St8.e (n_1.s.err n_2.2))]] [.box [AV.sl x.s.f.length 3 (fxG x.s.f), AV.sl x.s.c.length 4 (chG x.s.c), AV.int .i64 x.s.day, AV.int .i64 x.s.e]] ∧ 1 = 1 ∧ Ex.size x.x < n ∧ VPre (1 : Int) x) fun n => .all (fun (r : List UInt8 × Int) => (St8.e n.s ≠ 0 → r.2 = St8.e n.s) ∧ (St8.e n.s = 0 → r.2 = Ev.e (evA n) ∧ (r.2 = 0 → r.1 = Ev.v (evA n)))) fun n_3 => .ex (fun (x : K2) => eqL [AV.ptr 0 0, AV.str n_2.1, AV.str n_3.1] [AV.ptr 0 0, AV.str x.a, AV.str x.b] ∧ eqH [.box [AV.sl (List.length (St8.f (n.s.err n_3.2))) 3 (fxG (St8.f (n.s.err n_3.2))), AV.sl (List.length (St8.c (n.s.err n_3.2))) 4 (chG (St8.c (n.s.err n_3.2))), AV.int .i64 (St8.day (n.s.err n_3.2)), AV.int .i64 (St8.e (n.s.err n_3.2))]] [.box [AV.sl x.s.f.length 3 (fxG x.s.f), AV.sl x.s.c.length 4 (chG x.s.c), AV.int .i64 x.s.day, AV.int .i64 x.s.e]] ∧ 1 = 1 ∧ (St8.e x.s = 0 → x.a.length < 2305843009213693952 ∧ x.b.length < 2305843009213693952)) fun n => .all (fun (r : Int × Int) => r = cmpE n.s.e n.a n.b) fun n_4 => .ite (decide (k = 11)) (.leaf (.ret [.bool (decide (n_4.1 < 0))] [.box [.sl (List.length (St8.f (n.s.err n_4.2))) 3 (fxG (St8.f (n.s.err n_4.2))), .sl (List.length (St8.c (n.s.err n_4.2))) 4 (chG (St8.c (n.s.err n_4.2))), .int .i64 (St8.day (n.s.err n_4.2)), .int .i64 (St8.e (n.s.err n_4.2))], .box [.int .u8 k, .str r, .str m, .int .i64 d, .sl s.length 5 (Ex.exG s)]])) (.leaf (.ret [.bool (bif decide (n_4.1 = 0) then decide (St8.e (n.s.err n_4.2) = (0 : Int)) else false)] [.box [.sl (List.length (St8.f (n.s.err n_4.2))) 3 (fxG (St8.f (n.s.err n_4.2))), .sl (List.length (St8.c (n.s.err n_4.2))) 4 (chG (St8.c (n.s.err n_4.2))), .int .i64 (St8.day (n.s.err n_4.2)), .int .i64 (St8.e (n.s.err n_4.2))], .box [.int .u8 k, .str r, .str m, .int .i64 d, .sl s.length 5 (Ex.exG s)]]))))))))) (by kernel_rfl) ?_
 simp only [Tree.holds, zd]
 refine ⟨fun h => ?_, fun h => ?_⟩
 ·have h : e ≠ 0 := by simpa using h
  exact RetR.st9 rfl (hq (false, e) ⟨fun _ => rfl, fun h0 => absurd h0 h⟩) rfl rfl
 have h : e = 0 := by simpa using h
 subst h
 obtain ⟨hs, hf, hfl⟩ := hv rfl
 simp only at hs hf hfl
 have hq0 : ∀ t : Bool × Int, t.2 = ((Ex.mk k r m d s).ev f day).g → (t.2 = 0 → t.1 = ((Ex.mk k r m d s).ev f day).b) → Q (.bool t.1, [(St8.mk f c day t.2).box]) := fun t h1 h2 => hq t ⟨fun h => absurd rfl h, fun _ => ⟨h1, h2⟩⟩
 clear hq
 have hev : (Ex.mk k r m d s).ev f day = evN f day k r m d (Ex.evs f day s) := by rw [Ex.ev]
 have hc := Ex.J9 hs
 simp only [Ex.kind, Ex.sub, Ex.rat] at hc
 rw [Ex.size] at hn
 have z0 := fun g => Ex.qj (s := s) (i := 0) g
 have z1 := fun g => Ex.qj (s := s) (i := 1) g
 have fin : ∀ (t : Bool × Int) (b : Blk), t.2 = ((Ex.mk k r m d s).ev f day).g → (t.2 = 0 → t.1 = ((Ex.mk k r m d s).ev f day).b) → RetR (hldC fun k => k.x.size < n + 1 ∧ VPre 2 k) 1 Q [.bool t.1] [.box [.sl f.length 3 (fxG f), .sl c.length 4 (chG c), .int .i64 day, .int .i64 t.2], b] := fun t b h1 h2 => RetR.st9 rfl (hq0 t h1 h2) rfl rfl
 rcases hc with ⟨hk, hl, hs0, hs1⟩ | ⟨hk, hl, hs0, hs1⟩ | ⟨rfl, hl, hs0⟩
 ·iterate 3 refine ⟨fun h => absurd (of_decide_eq_true h) (by omega), fun _ => ?_⟩
  have z0 := z0 (by omega)
  have z1 := z1 (by omega)
  have he : (((Ex.mk k r m d s).ev f day).b, ((Ex.mk k r m d s).ev f day).g) = uh false ((s.getD 0 Ex.nil).ev f day) ((s.getD 1 Ex.nil).ev f day) (JJ k) := by
   rw [hev]
   simp only [evN, hldN]
   rw [if_neg (by omega), Ex.qx (by omega), Ex.qx (by omega)]
  unfold uh at he
  refine ⟨⟨by decide, by omega⟩, fun _ => ⟨⟨⟨f, c, day, 0⟩, s.getD 0 Ex.nil⟩, ⟨eqX2 _, qg f c day 0, by trivial, by show (s.getD 0 Ex.nil).size < n; omega, fun _ => ⟨hs0, hf, hfl⟩⟩, vU _ _ _, ?_⟩⟩
  intro r0 g0
  obtain ⟨g0, k0⟩ := g0.2 rfl
  simp only [evA] at g0 k0
  refine ⟨⟨by decide, by omega⟩, fun _ => ⟨⟨⟨f, c, day, r0.2⟩, s.getD 1 Ex.nil⟩, ⟨eqX2 _, qg f c day r0.2, by trivial, by show (s.getD 1 Ex.nil).size < n; omega, fun _ => ⟨hs1, hf, hfl⟩⟩, vU _ _ _, ?_⟩⟩
  intro r1 g1
  simp only [evA] at g1
  have hboth : r1.2 = 0 → r0.2 = 0 ∧ r0.1 = ((s.getD 0 Ex.nil).ev f day).v ∧ r1.1 = ((s.getD 1 Ex.nil).ev f day).v ∧ errR r0.1 = 0 ∧ errR r1.1 = 0 ∧ ((Ex.mk k r m d s).ev f day).b = (JJ k r0.1 r1.1).1 ∧ ((Ex.mk k r m d s).ev f day).g = (JJ k r0.1 r1.1).2 := by
   intro h
   have h3 : r0.2 = 0 := by
    refine Decidable.byContradiction fun h3 => ?_
    exact h3 (by rw [← g1.1 h3]; exact h)
   obtain ⟨q1, k1'⟩ := g1.2 h3
   have k0 := k0 h3
   have k1' := k1' h
   rw [if_neg (by rw [← g0]; simpa using h3), if_neg (by rw [← q1]; simpa using h), ← k0, ← k1'] at he
   have l0 : errR r0.1 = 0 := by rw [k0]; exact Ex.y5 hf day _ hs0 (by rw [← g0]; exact h3)
   have l1 : errR r1.1 = 0 := by rw [k1']; exact Ex.y5 hf day _ hs1 (by rw [← q1]; exact h)
   exact ⟨h3, k0, k1', l0, l1, congrArg Prod.fst he, congrArg Prod.snd he⟩
  refine ⟨⟨⟨f, c, day, r1.2⟩, r0.1, r1.1⟩, ⟨⟨⟨rfl, rfl⟩, rfl, rfl, trivial⟩, qg f c day r1.2, by trivial, fun h => ?_⟩, ⟨_, rfl⟩, ?_⟩
  ·obtain ⟨_, _, _, l0, l1, _⟩ := hboth h
   have l0 := x2 l0
   have l1 := x2 l1
   exact ⟨by show r0.1.length < _; omega, by show r1.1.length < _; omega⟩
  intro z hz
  simp only at hz
  by_cases h : r1.2 = 0
  ·obtain ⟨h3, k0, k1', l0, l1, e1, e2⟩ := hboth h
   have hz : z = cmpR r0.1 r1.1 := by rw [hz]; unfold cmpE; rw [if_neg (by rw [h]; simp)]
   unfold JJ at e1 e2
   refine ⟨fun hk => ?_, fun hk => ?_⟩
   ·have hk : k = 11 := of_decide_eq_true hk
    refine fin (decide (z.1 < 0), z.2) _ ?_ fun h0 => ?_
    ·rw [e2, hz]
     by_cases g : (cmpR r0.1 r1.1).2 = 0
     ·rw [if_neg (by rw [g]; simp)]; exact g
     ·rw [if_pos g]
    ·have h0 : z.2 = 0 := h0
     rw [hz] at h0 ⊢
     rw [e1, if_neg (by rw [h0]; simp), if_pos hk]
   ·have hk : ¬ k = 11 := of_decide_eq_false hk
    refine fin ((bif decide (z.1 = 0) then decide (z.2 = 0) else false), z.2) _ ?_ fun h0 => ?_
    ·rw [e2, hz]
     by_cases g : (cmpR r0.1 r1.1).2 = 0
     ·rw [if_neg (by rw [g]; simp)]; exact g
     ·rw [if_pos g]
    ·have h0 : z.2 = 0 := h0
     rw [hz] at h0 ⊢
     rw [e1, if_neg (by rw [h0]; simp), if_neg hk]
     simp only [h0]
     cases decide ((cmpR r0.1 r1.1).1 = 0) <;> rfl
  ·have hz : z = (0, r1.2) := by rw [hz]; unfold cmpE; rw [if_pos h]
   have hg : ((Ex.mk k r m d s).ev f day).g = r1.2 := by
    have he := congrArg Prod.snd he
    simp only at he
    rw [he]
    by_cases h3 : r0.2 = 0
    ·obtain ⟨q1, _⟩ := g1.2 h3
     rw [if_neg (by rw [← g0]; simpa using h3), if_pos (by rw [← q1]; exact h), q1]
    ·rw [if_pos (by rw [← g0]; exact h3), g1.1 h3, g0]
   subst hz
   refine ⟨fun hk => ?_, fun hk => ?_⟩
   ·exact fin (false, r1.2) _ hg.symm fun h0 => absurd h0 h
   ·refine fin ((bif decide ((0 : Int) = 0) then decide (r1.2 = 0) else false), r1.2) _ hg.symm fun h0 => absurd h0 h
 ·have z0 := z0 (by omega)
  have z1 := z1 (by omega)
  have he : (((Ex.mk k r m d s).ev f day).b, ((Ex.mk k r m d s).ev f day).g) = if ((s.getD 0 Ex.nil).ev f day).g ≠ 0 then (false, ((s.getD 0 Ex.nil).ev f day).g) else if ((s.getD 0 Ex.nil).ev f day).b = decide (k = 14) then (((s.getD 0 Ex.nil).ev f day).b, 0) else (((s.getD 1 Ex.nil).ev f day).b, ((s.getD 1 Ex.nil).ev f day).g) := by
   rw [hev]
   simp only [evN, hldN]
   rw [if_pos (by omega), if_neg (show ¬ k = 15 by omega), Ex.qx (by omega), Ex.qx (by omega)]
  have go : ∀ (r0 : Bool × Int), r0.2 = ((s.getD 0 Ex.nil).ev f day).g → (r0.2 = 0 → r0.1 = ((s.getD 0 Ex.nil).ev f day).b) →
    (r0.1 = decide (k = 14) → r0.2 = ((Ex.mk k r m d s).ev f day).g ∧ (r0.2 = 0 → r0.1 = ((Ex.mk k r m d s).ev f day).b)) ∧
    (r0.1 ≠ decide (k = 14) → ∀ r1 : Bool × Int, ((r0.2 ≠ 0 → r1.2 = r0.2) ∧ (r0.2 = 0 → r1.2 = ((s.getD 1 Ex.nil).ev f day).g ∧ (r1.2 = 0 → r1.1 = ((s.getD 1 Ex.nil).ev f day).b))) → r1.2 = ((Ex.mk k r m d s).ev f day).g ∧ (r1.2 = 0 → r1.1 = ((Ex.mk k r m d s).ev f day).b)) := by
   intro r0 g0 k0
   have e1 := congrArg Prod.fst he
   have e2 := congrArg Prod.snd he
   simp only at e1 e2
   rw [e1, e2]
   by_cases h3 : r0.2 = 0
   ·rw [if_neg (by rw [← g0]; simpa using h3), ← k0 h3]
    refine ⟨fun h => ?_, fun h r1 g1 => ?_⟩
    ·rw [if_pos h]; exact ⟨h3, fun _ => rfl⟩
    ·rw [if_neg h]; exact g1.2 h3
   ·rw [if_pos (by rw [← g0]; exact h3)]
    refine ⟨fun h => ⟨g0, fun h0 => absurd h0 h3⟩, fun h r1 g1 => ?_⟩
    rw [g1.1 h3]
    exact ⟨g0, fun h0 => absurd h0 h3⟩
  have first : ∃ r : Bool × Int, ((0 : Int) ≠ 0 → r.2 = 0) ∧ ((0 : Int) = 0 → r.2 = (evA ⟨⟨f, c, day, 0⟩, s.getD 0 Ex.nil⟩).g ∧ (r.2 = 0 → r.1 = (evA ⟨⟨f, c, day, 0⟩, s.getD 0 Ex.nil⟩).b)) := uK _ _ _
  rcases hk with rfl | rfl
  ·refine ⟨fun _ => ?_, fun h => (by cases h)⟩
   refine ⟨⟨by decide, by omega⟩, fun _ => ⟨⟨⟨f, c, day, 0⟩, s.getD 0 Ex.nil⟩, ⟨eqX2 _, qg f c day 0, by trivial, by show (s.getD 0 Ex.nil).size < n; omega, fun _ => ⟨hs0, hf, hfl⟩⟩, first, ?_⟩⟩
   intro r0 g0
   obtain ⟨g0, k0⟩ := g0.2 rfl
   obtain ⟨go1, go2⟩ := go r0 g0 k0
   refine ⟨fun _ => ⟨by decide, by omega⟩, fun _ => ⟨fun hb => ?_, fun hb => ?_⟩⟩
   ·have hb : r0.1 = true := by simpa using hb
    refine ⟨⟨⟨f, c, day, r0.2⟩, s.getD 1 Ex.nil⟩, ⟨eqX2 _, qg f c day r0.2, by trivial, by show (s.getD 1 Ex.nil).size < n; omega, fun _ => ⟨hs1, hf, hfl⟩⟩, uK _ _ _, ?_⟩
    intro r1 g1
    rw [hb]
    obtain ⟨u1, u2⟩ := go2 (by rw [hb]; decide) r1 g1
    exact fin r1 _ u1 u2
   ·have hb : r0.1 = false := by simpa using hb
    rw [hb]
    obtain ⟨u1, u2⟩ := go1 (by rw [hb]; rfl)
    exact fin (false, r0.2) _ u1 (fun h0 => by rw [← u2 h0, hb])
  ·refine ⟨fun h => (by cases h), fun _ => ⟨fun _ => ?_, fun h => (by cases h)⟩⟩
   refine ⟨⟨by decide, by omega⟩, fun _ => ⟨⟨⟨f, c, day, 0⟩, s.getD 0 Ex.nil⟩, ⟨eqX2 _, qg f c day 0, by trivial, by show (s.getD 0 Ex.nil).size < n; omega, fun _ => ⟨hs0, hf, hfl⟩⟩, first, ?_⟩⟩
   intro r0 g0
   obtain ⟨g0, k0⟩ := g0.2 rfl
   obtain ⟨go1, go2⟩ := go r0 g0 k0
   refine ⟨fun _ => ⟨by decide, by omega⟩, fun _ => ⟨fun hb => ?_, fun hb => ?_⟩⟩
   ·have hb : r0.1 = false := by simpa using hb
    refine ⟨⟨⟨f, c, day, r0.2⟩, s.getD 1 Ex.nil⟩, ⟨eqX2 _, qg f c day r0.2, by trivial, by show (s.getD 1 Ex.nil).size < n; omega, fun _ => ⟨hs1, hf, hfl⟩⟩, uK _ _ _, ?_⟩
    intro r1 g1
    rw [hb]
    obtain ⟨u1, u2⟩ := go2 (by rw [hb]; decide) r1 g1
    exact fin r1 _ u1 u2
   ·have hb : r0.1 = true := by simpa using hb
    rw [hb]
    obtain ⟨u1, u2⟩ := go1 (by rw [hb]; rfl)
    exact fin (true, r0.2) _ u1 (fun h0 => by rw [← u2 h0, hb])
 ·iterate 2 refine ⟨fun h => (by cases h), fun _ => ?_⟩
  refine ⟨fun _ => ?_, fun h => (by cases h)⟩
  have z0 := z0 (by omega)
  have he : (((Ex.mk 15 r m d s).ev f day).b, ((Ex.mk 15 r m d s).ev f day).g) = if ((s.getD 0 Ex.nil).ev f day).g ≠ 0 then (false, ((s.getD 0 Ex.nil).ev f day).g) else (!((s.getD 0 Ex.nil).ev f day).b, 0) := by
   rw [hev]
   simp only [evN, hldN]
   rw [if_pos (by decide), if_pos trivial, Ex.qx (by omega)]
  refine ⟨⟨by decide, by omega⟩, fun _ => ⟨⟨⟨f, c, day, 0⟩, s.getD 0 Ex.nil⟩, ⟨eqX2 _, qg f c day 0, by trivial, by show (s.getD 0 Ex.nil).size < n; omega, fun _ => ⟨hs0, hf, hfl⟩⟩, uK _ _ _, ?_⟩⟩
  intro r0 g0
  obtain ⟨g0, k0⟩ := g0.2 rfl
  simp only [evA] at g0 k0
  have e1 := congrArg Prod.fst he
  have e2 := congrArg Prod.snd he
  simp only at e1 e2
  refine fin ((bif !r0.1 then decide (r0.2 = 0) else false), r0.2) _ ?_ fun h3 => ?_
  ·rw [e2]
   by_cases h3 : r0.2 = 0
   ·rw [if_neg (by rw [← g0]; simpa using h3)]; exact h3
   ·rw [if_pos (by rw [← g0]; exact h3)]; exact g0
  ·have h3 : r0.2 = 0 := h3
   rw [e1, if_neg (by rw [← g0]; simpa using h3), ← k0 h3]
   simp only [h3]
   cases r0.1 <;> rfl
end
theorem VY : zb Tryd.prog 34 (valC (VPre 1)) ∧ zb Tryd.prog 40 (hldC (VPre 2)) :=
 Xf (fun k : VX => k.x.size) (fun k : VX => k.x.size) fun n h1 h2 => ⟨Vd n h1 h2, W8 n h1 h2⟩
theorem Ym : zb Tryd.prog 34 (valC (VPre 1)) := VY.1
theorem YI : zb Tryd.prog 40 (hldC (VPre 2)) := VY.2
end Go.Proofs.Tryd
end

/- Values of expressions, with the errors that come first. -/
section
namespace Go.Nov
def askE (x : Ex) (want day : Int) (f : List Fx) (c : List Ch) : Int := if x.errX ≠ 0 then x.errX else if x.zK ≠ want then 32 else if errE f c ≠ 0 then errE f c else if dayB day then 0 else 2
def xX (x : Ex) (day : Int) (f : List Fx) (c : List Ch) : List UInt8 × Int := if askE x 1 day f c ≠ 0 then ([], askE x 1 day f c) else if (x.ev f day).e ≠ 0 then ([], (x.ev f day).e) else ((x.ev f day).v, 0)
theorem zdu {x : Ex} {want day : Int} {f : List Fx} {c : List Ch} (h : x.errX ≠ 0) : askE x want day f c = x.errX := by unfold askE; rw [if_pos h]
theorem ze0 {x : Ex} {want day : Int} {f : List Fx} {c : List Ch} (h : x.errX = 0) (h2 : ¬ x.zK = want) : askE x want day f c = 32 := by unfold askE; rw [if_neg (by rw [h]; simp), if_pos h2]
theorem ze8 {x : Ex} {want day : Int} {f : List Fx} {c : List Ch} (h : x.errX = 0) (h2 : x.zK = want) : askE x want day f c = if errE f c = 0 then (if dayB day = true then 0 else 2) else errE f c := by
 unfold askE
 rw [if_neg (by rw [h]; simp), if_neg (by rw [h2]; simp)]
 by_cases g : errE f c = 0
 ·rw [if_pos g, if_neg (by rw [g]; simp)]
 ·rw [if_neg g, if_pos g]
theorem YN {x : Ex} {want day : Int} {f : List Fx} {c : List Ch} (h : askE x want day f c = 0) : x.errX = 0 ∧ x.zK = want ∧ errE f c = 0 ∧ dayB day = true := by
 unfold askE at h
 split at h
 ·rename_i g; exact absurd h g
 ·rename_i g1
  split at h
  ·cases h
  ·rename_i g2
   split at h
   ·rename_i g; exact absurd h g
   ·rename_i g3
    split at h
    ·rename_i g4
     exact ⟨Classical.not_not.1 g1, Classical.not_not.1 g2, Classical.not_not.1 g3, g4⟩
    ·cases h
end Go.Nov
end
