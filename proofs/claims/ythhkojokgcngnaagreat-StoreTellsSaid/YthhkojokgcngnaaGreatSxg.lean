/- Part 7 of the proof. -/
import Derived.Test.YthhkojokgcngnaaGreatSxb
import Derived.Test.YthhkojokgcngnaaGreatSxf
import Derived.KernelRfl
set_option linter.unusedVariables false
set_option linter.unusedSimpArgs false
set_option linter.unusedSectionVars false

/- What is known: the reference's copies and places. -/
section
set_option maxRecDepth 100000
open Go Go.Sx Go.Proofs Go.Nov
namespace Go.Proofs.Tryz
attribute [local simp] eqKV eqA eqA0 eqH eqB eqL eqL0
noncomputable def K29 : List Go.Sx.Item := [.code (Tryz.f29.body.getD .skip)]
noncomputable def K30 : List Go.Sx.Item := [.code (Tryz.f30.body.getD .skip)]
theorem Zg {n : Nat} {g : Nat → Nat → AV} {l : List Fx} (h : eqG n 3 g (fxG l)) : newB (.arr n 3 g) := fun j o hj ho => by rw [h j o hj ho]; exact kY l j o ho
theorem Ze {n : Nat} {g : Nat → Nat → AV} {l : List Ch} (h : eqG n 4 g (chG l)) : newB (.arr n 4 g) := fun j o hj ho => by rw [h j o hj ho]; exact kZ l j o ho
noncomputable def GV2 : Nat → Option Ctr := fun f => if f = 46 then some (yp) else if f = 47 then some (xy) else if f = 48 then some (xo) else if f = 49 then some (yJ) else if f = 50 then some (Zy) else if f = 51 then some (ZO) else none
theorem Jv : ∀ g c, GV2 g = some c → ze Tryz.prog g c := okIf VB (okIf Zl (okIf Xs (okIf xU (okIf Qp (okIf Z1 (zn))))))
def SPu (put : Bool) (i : Nat) : KV := [(2, .ptr 0 0), (3, .ptr 1 0), (4, .ptr 2 0), (6, .ptr 4 0), (7, .bool put), (8, .int .i64 (i : Int)), (55, .undef), (56, .undef), (57, .undef), (58, .undef), (72, .undef), (73, .undef), (74, .undef), (75, .undef), (76, .undef)]
def HPu (f : List Fx) (c : List Ch) (x : Fx) (l : List Fx) : Heap := [.box [fxS f, chS c], .box [.str x.name, .int .i64 x.date, .str x.value], .box [.nils, .nils], .arr c.length 4 (chG c), .box [.osl 5 3 0 l.length, .osl 3 4 0 c.length], .arr l.length 3 (fxG l)]
def HPu0 (f : List Fx) (c : List Ch) (x : Fx) : Heap := [.box [fxS f, chS c], .box [.str x.name, .int .i64 x.date, .str x.value], .box [.nils, .nils], .arr (0 + c.length) 4 (appG 0 (zf 4 []) (chG c)), .box [.nils, .osl 3 4 0 (0 + c.length)]]
def HPu1 (f : List Fx) (c : List Ch) (x : Fx) : Heap := [.box [fxS f, chS c], .box [.str x.name, .int .i64 x.date, .str x.value], .box [.nils, .nils], .arr (0 + c.length) 4 (appG 0 (zf 4 []) (chG c)), .box [.osl 5 3 0 0, .osl 3 4 0 (0 + c.length)]]
def XJ : Ctr := ctrP true (fun p : (List Fx × List Ch) × Fx => [envA p.1.1 p.1.2, p.2.av]) (fun p => envP p.1 ∧ qn p.2) (fun p r => r = putF p.1.1 p.1.2 p.2) (fun _ (r : (List Fx × List Ch) × Int) => (.tup [envA r.1.1 r.1.2, .int .i64 r.2], []))
theorem XQ {O : Nat → Prop} {w0 : World} {Q : AV × Heap → Prop} {Hs : Nat → KV → Heap → Prop} (f : List Fx) (c : List Ch) (x : Fx) (hf : f.length ≤ 1000) (hc : c.length ≤ 1000)
  (hq : Q (.tup [envA (if 1000 < (refL cmpF x false f).length then (([], []), 22) else ((refL cmpF x false f, c), 0) : (List Fx × List Ch) × Int).1.1 (if 1000 < (refL cmpF x false f).length then (([], []), 22) else ((refL cmpF x false f, c), 0) : (List Fx × List Ch) × Int).1.2, .int .i64 (if 1000 < (refL cmpF x false f).length then (([], []), 22) else ((refL cmpF x false f, c), 0) : (List Fx × List Ch) × Int).2], [])) :
  zc Tryz.prog Tryz.f29 O 0 w0 [] Hs (RetR XJ 0 Q) (.code (.loop (lps K29 0).1) :: (lps K29 0).2) (mk Tryz.f29.ntmps (SPu false 0) (HPu0 f c x)) := by
 refine zc.up [(3, fun _ _ => .undef)] (SPu false 0) (HPu1 f c x) (by simp [SPu, upKV, upA2, upA1, upA0]) (by simp [HPu0, HPu1, upH, upB, upL1, upA1, upA0, fxS, chS]) (by kernel_rfl) (by kernel_rfl) ?_
 refine zc.loop (ι := {p : Nat × Bool × List Fx // p.1 ≤ f.length ∧ p.2.2 ++ refL cmpF x p.2.1 (f.drop p.1) = refL cmpF x false f ∧ p.2.2.length ≤ 2 * p.1}) (fun p => SPu p.1.2.1 p.1.1) (fun p => HPu f c x p.1.2.2) (fun p => f.length - p.1.1) ⟨(0, false, []), Nat.zero_le _, by simp, by simp⟩ 0 ?_ ?_ (by kernel_rfl)
 ·exact ⟨by simp [SPu], ⟨by simp [fxS, chS, za], by simp [fxS, chS, za], by simp, ⟨by omega, rfl, vA _ _ _ _⟩, by simp, ⟨rfl, rfl, fun j o hj _ => by omega⟩, trivial⟩, by kernel_rfl, Nat.zero_le _⟩
 ·rintro ⟨⟨i, put, l⟩, hil, hlr, hll⟩
  simp only at hil hlr hll
  refine zc.run hmix Jv [2, 3, 4, 6, 7, 8, 55, 56, 57, 58, 72, 73, 74, 75, 76] 400 (T := .ite (decide ((↑i : Int) < f.length)) (.side ((0 : Int) ≤ i ∧ (↑i : Int) < f.length) (.ex (fun (x_1 : Fx × Fx) => (!put) = true → eqL [AV.agg [AV.str (Fx.name (List.getD f (Int.toNat (↑i : Int)) Fx.nil)), AV.int .i64 (Fx.date (List.getD f (Int.toNat (↑i : Int)) Fx.nil)), AV.str (Fx.value (List.getD f (Int.toNat (↑i : Int)) Fx.nil))], AV.agg [AV.str x.name, AV.int .i64 x.date, AV.str x.value]] [AV.agg [AV.str x_1.1.name, AV.int .i64 x_1.1.date, AV.str x_1.1.value], AV.agg [AV.str x_1.2.name, AV.int .i64 x_1.2.date, AV.str x_1.2.value]] ∧ True) fun n => .all (fun (x : Bool) => (!put) = true → x = decide (cmpF n.1 n.2 < 0)) fun n => .ite (bif !put then !n else false) (.side (0 = 0 ∧ l.length ≤ l.length ∧ (l.length + 1) * 40 ≤ 140737488355328) (.ite (bif !decide (Fx.name (List.getD f (Int.toNat (↑i : Int)) Fx.nil) = Fx.name x) then true else !decide (Fx.date (List.getD f (Int.toNat (↑i : Int)) Fx.nil) = Fx.date x)) (.side (0 = 0 ∧ l.length + 1 ≤ l.length + 1 ∧ (l.length + 1 + 1) * 40 ≤ 140737488355328) (.side (inR .i64 ((↑i : Int) + (1 : Int))) (.leaf (.back 0 [(2, .ptr 0 0), (3, .ptr 1 0), (4, .ptr 2 0), (6, .ptr 4 0), (7, .bool true), (8, .int .i64 ((↑i : Int) + (1 : Int))), (55, .undef), (56, .undef), (57, .undef), (58, .undef), (72, .undef), (73, .undef), (74, .undef), (75, .undef), (76, .undef)] [.box [.sl f.length 3 (fxG f), .sl c.length 4 (chG c)], .box [.str x.name, .int .i64 x.date, .str x.value], .box [.nils, .nils], .arr c.length 4 (chG c), .box [.osl 5 3 0 (l.length + 1 + 1), .osl 3 4 0 c.length], .arr (l.length + 1 + 1) 3 (appG (l.length + 1) (appG l.length (fxG l) (zg (zf 3 [.str x.name, .int .i64 x.date, .str x.value]) 0)) (zg (zf 3 [.str (Fx.name (List.getD f (Int.toNat (↑i : Int)) Fx.nil)), .int .i64 (Fx.date (List.getD f (Int.toNat (↑i : Int)) Fx.nil)), .str (Fx.value (List.getD f (Int.toNat (↑i : Int)) Fx.nil))]) 0)), .box [.str (Fx.name (List.getD f (Int.toNat (↑i : Int)) Fx.nil)), .int .i64 (Fx.date (List.getD f (Int.toNat (↑i : Int)) Fx.nil)), .str (Fx.value (List.getD f (Int.toNat (↑i : Int)) Fx.nil))], .arr 1 3 (zf 3 [.str x.name, .int .i64 x.date, .str x.value]), .arr 1 3 (zf 3 [.str (Fx.name (List.getD f (Int.toNat (↑i : Int)) Fx.nil)), .int .i64 (Fx.date (List.getD f (Int.toNat (↑i : Int)) Fx.nil)), .str (Fx.value (List.getD f (Int.toNat (↑i : Int)) Fx.nil))])])))) (.side (inR .i64 ((↑i : Int) + (1 : Int))) (.leaf (.back 0 [(2, .ptr 0 0), (3, .ptr 1 0), (4, .ptr 2 0), (6, .ptr 4 0), (7, .bool true), (8, .int .i64 ((↑i : Int) + (1 : Int))), (55, .undef), (56, .undef), (57, .undef), (58, .undef), (72, .undef), (73, .undef), (74, .undef), (75, .undef), (76, .undef)] [.box [.sl f.length 3 (fxG f), .sl c.length 4 (chG c)], .box [.str x.name, .int .i64 x.date, .str x.value], .box [.nils, .nils], .arr c.length 4 (chG c), .box [.osl 5 3 0 (l.length + 1), .osl 3 4 0 c.length], .arr (l.length + 1) 3 (appG l.length (fxG l) (zg (zf 3 [.str x.name, .int .i64 x.date, .str x.value]) 0)), .box [.str (Fx.name (List.getD f (Int.toNat (↑i : Int)) Fx.nil)), .int .i64 (Fx.date (List.getD f (Int.toNat (↑i : Int)) Fx.nil)), .str (Fx.value (List.getD f (Int.toNat (↑i : Int)) Fx.nil))], .arr 1 3 (zf 3 [.str x.name, .int .i64 x.date, .str x.value])]))))) (.ite (bif !decide (Fx.name (List.getD f (Int.toNat (↑i : Int)) Fx.nil) = Fx.name x) then true else !decide (Fx.date (List.getD f (Int.toNat (↑i : Int)) Fx.nil) = Fx.date x)) (.side (0 = 0 ∧ l.length ≤ l.length ∧ (l.length + 1) * 40 ≤ 140737488355328) (.side (inR .i64 ((↑i : Int) + (1 : Int))) (.leaf (.back 0 [(2, .ptr 0 0), (3, .ptr 1 0), (4, .ptr 2 0), (6, .ptr 4 0), (7, .bool put), (8, .int .i64 ((↑i : Int) + (1 : Int))), (55, .undef), (56, .undef), (57, .undef), (58, .undef), (72, .undef), (73, .undef), (74, .undef), (75, .undef), (76, .undef)] [.box [.sl f.length 3 (fxG f), .sl c.length 4 (chG c)], .box [.str x.name, .int .i64 x.date, .str x.value], .box [.nils, .nils], .arr c.length 4 (chG c), .box [.osl 5 3 0 (l.length + 1), .osl 3 4 0 c.length], .arr (l.length + 1) 3 (appG l.length (fxG l) (zg (zf 3 [.str (Fx.name (List.getD f (Int.toNat (↑i : Int)) Fx.nil)), .int .i64 (Fx.date (List.getD f (Int.toNat (↑i : Int)) Fx.nil)), .str (Fx.value (List.getD f (Int.toNat (↑i : Int)) Fx.nil))]) 0)), .box [.str (Fx.name (List.getD f (Int.toNat (↑i : Int)) Fx.nil)), .int .i64 (Fx.date (List.getD f (Int.toNat (↑i : Int)) Fx.nil)), .str (Fx.value (List.getD f (Int.toNat (↑i : Int)) Fx.nil))], .arr 1 3 (zf 3 [.str (Fx.name (List.getD f (Int.toNat (↑i : Int)) Fx.nil)), .int .i64 (Fx.date (List.getD f (Int.toNat (↑i : Int)) Fx.nil)), .str (Fx.value (List.getD f (Int.toNat (↑i : Int)) Fx.nil))])])))) (.side (inR .i64 ((↑i : Int) + (1 : Int))) (.leaf (.back 0 [(2, .ptr 0 0), (3, .ptr 1 0), (4, .ptr 2 0), (6, .ptr 4 0), (7, .bool put), (8, .int .i64 ((↑i : Int) + (1 : Int))), (55, .undef), (56, .undef), (57, .undef), (58, .undef), (72, .undef), (73, .undef), (74, .undef), (75, .undef), (76, .undef)] [.box [.sl f.length 3 (fxG f), .sl c.length 4 (chG c)], .box [.str x.name, .int .i64 x.date, .str x.value], .box [.nils, .nils], .arr c.length 4 (chG c), .box [.osl 5 3 0 l.length, .osl 3 4 0 c.length], .arr l.length 3 (fxG l), .box [.str (Fx.name (List.getD f (Int.toNat (↑i : Int)) Fx.nil)), .int .i64 (Fx.date (List.getD f (Int.toNat (↑i : Int)) Fx.nil)), .str (Fx.value (List.getD f (Int.toNat (↑i : Int)) Fx.nil))]])))))) (.ite (!put) (.side (0 = 0 ∧ l.length ≤ l.length ∧ (l.length + 1) * 40 ≤ 140737488355328) (.ite (decide ((1000 : Int) < (↑(l.length + 1) : Int))) (.leaf (.ret [.agg [.nils, .nils], .int .i64 22] [.box [.sl f.length 3 (fxG f), .sl c.length 4 (chG c)], .box [.str x.name, .int .i64 x.date, .str x.value], .box [.nils, .nils], .arr c.length 4 (chG c), .box [.osl 5 3 0 (l.length + 1), .osl 3 4 0 c.length], .arr (l.length + 1) 3 (appG l.length (fxG l) (zg (zf 3 [.str x.name, .int .i64 x.date, .str x.value]) 0)), .arr 1 3 (zf 3 [.str x.name, .int .i64 x.date, .str x.value])])) (.leaf (.ret [.agg [.osl 5 3 0 (l.length + 1), .osl 3 4 0 c.length], .int .i64 0] [.box [.sl f.length 3 (fxG f), .sl c.length 4 (chG c)], .box [.str x.name, .int .i64 x.date, .str x.value], .box [.osl 5 3 0 (l.length + 1), .osl 3 4 0 c.length], .arr c.length 4 (chG c), .box [.osl 5 3 0 (l.length + 1), .osl 3 4 0 c.length], .arr (l.length + 1) 3 (appG l.length (fxG l) (zg (zf 3 [.str x.name, .int .i64 x.date, .str x.value]) 0)), .arr 1 3 (zf 3 [.str x.name, .int .i64 x.date, .str x.value])])))) (.ite (decide ((1000 : Int) < l.length)) (.leaf (.ret [.agg [.nils, .nils], .int .i64 22] [.box [.sl f.length 3 (fxG f), .sl c.length 4 (chG c)], .box [.str x.name, .int .i64 x.date, .str x.value], .box [.nils, .nils], .arr c.length 4 (chG c), .box [.osl 5 3 0 l.length, .osl 3 4 0 c.length], .arr l.length 3 (fxG l)])) (.leaf (.ret [.agg [.osl 5 3 0 l.length, .osl 3 4 0 c.length], .int .i64 0] [.box [.sl f.length 3 (fxG f), .sl c.length 4 (chG c)], .box [.str x.name, .int .i64 x.date, .str x.value], .box [.osl 5 3 0 l.length, .osl 3 4 0 c.length], .arr c.length 4 (chG c), .box [.osl 5 3 0 l.length, .osl 3 4 0 c.length], .arr l.length 3 (fxG l)]))))) (by kernel_rfl) ?_
  simp only [Tree.holds, zd, inR, lo, hi, Int.toNat_natCast, YP]
  refine ⟨fun hlt => ?_, fun hge => ?_⟩
  ·have hlt : i < f.length := by have := of_decide_eq_true hlt; omega
   rw [Vr (z := Fx.nil) hlt] at hlr
   obtain ⟨o, ho⟩ : ∃ o, f.getD i Fx.nil = o := ⟨_, rfl⟩
   simp only [ho] at hlr ⊢
   have hbk : ∀ (l' : List Fx) (put' : Bool) (kv : KV) (h : Heap), l' ++ refL cmpF x put' (f.drop (i + 1)) = refL cmpF x false f → l'.length ≤ 2 * (i + 1) → LeK 0 Tryz.f29.ntmps kv h (SPu put' (i + 1)) (HPu f c x l') →
     ∃ x' : {p : Nat × Bool × List Fx // p.1 ≤ f.length ∧ p.2.2 ++ refL cmpF x p.2.1 (f.drop p.1) = refL cmpF x false f ∧ p.2.2.length ≤ 2 * p.1}, f.length - x'.1.1 < f.length - i ∧ LeK 0 Tryz.f29.ntmps kv h (SPu x'.1.2.1 x'.1.1) (HPu f c x x'.1.2.2) := fun l' put' kv h g1 g2 g3 => ⟨⟨(i + 1, put', l'), hlt, g1, g2⟩, by show f.length - (i + 1) < f.length - i; omega, g3⟩
   refine ⟨by omega, fun _ => ⟨(o, x), fun _ => ⟨by simp, trivial⟩, ⟨_, fun _ => rfl⟩, ?_⟩⟩
   intro b hb
   have hput : (bif !put then !b else false) = true → put = false ∧ ¬ cmpF o x < 0 := fun h => by
    cases put with
    | true => cases h
    | false => rw [hb rfl] at h; exact ⟨rfl, by simpa using h⟩
   have hput2 : (bif !put then !b else false) = false → (put || !decide (cmpF o x < 0)) = put ∧ ¬ (put = false ∧ ¬ cmpF o x < 0) := fun h => by
    cases put with
    | true => exact ⟨rfl, by simp⟩
    | false =>
     rw [hb rfl] at h
     have h : cmpF o x < 0 := by simpa using h
     rw [decide_eq_true h]
     exact ⟨rfl, fun h2 => h2.2 h⟩
   refine ⟨fun h => ?_, fun h => ?_⟩
   ·obtain ⟨hp, hn⟩ := hput h
    rw [if_pos ⟨hp, hn⟩, decide_eq_false hn, Bool.not_false, Bool.or_true] at hlr
    refine ⟨⟨trivial, Nat.le_refl _, by omega⟩, fun _ => ⟨fun h2 => ?_, fun h2 => ⟨by omega, fun _ => ?_⟩⟩⟩
    ·have h2 : ¬ cmpF o x = 0 := by simpa using h2
     rw [if_neg h2] at hlr
     refine ⟨⟨trivial, Nat.le_refl _, by omega⟩, fun _ => ⟨by omega, fun _ => ?_⟩⟩
     rw [if_pos trivial]
     refine hbk (l ++ [x] ++ [o]) true _ _ (by simpa using hlr) (by simp; omega) ⟨by simp [SPu], ⟨by simp [fxS, chS, za], by simp, by simp, by simp [za], by simp, ⟨by simp, rfl, ?_⟩, trivial⟩, by kernel_rfl, Nat.zero_le _⟩
     have := yA (x := o) (l := l ++ [x]) (g := appG l.length (fxG l) (zg (zf 3 [.str x.name, .int .i64 x.date, .str x.value]) 0)) (by simpa using yA (za _ _ _))
     simpa using this
    ·have h2 : cmpF o x = 0 := by simpa using h2
     rw [if_pos h2] at hlr
     rw [if_pos trivial]
     refine hbk (l ++ [x]) true _ _ (by simpa using hlr) (by simp; omega) ⟨by simp [SPu], ⟨by simp [fxS, chS, za], by simp, by simp, by simp [za], by simp, ⟨by simp, rfl, ?_⟩, trivial⟩, by kernel_rfl, Nat.zero_le _⟩
     exact yA (za _ _ _)
   ·obtain ⟨hp, hn⟩ := hput2 h
    rw [if_neg hn, hp] at hlr
    refine ⟨fun h2 => ?_, fun h2 => ⟨by omega, fun _ => ?_⟩⟩
    ·have h2 : ¬ cmpF o x = 0 := by simpa using h2
     rw [if_neg h2] at hlr
     refine ⟨⟨trivial, Nat.le_refl _, by omega⟩, fun _ => ⟨by omega, fun _ => ?_⟩⟩
     rw [if_pos trivial]
     refine hbk (l ++ [o]) put _ _ (by simpa using hlr) (by simp; omega) ⟨by simp [SPu], ⟨by simp [fxS, chS, za], by simp, by simp, by simp [za], by simp, ⟨by simp, rfl, ?_⟩, trivial⟩, by kernel_rfl, Nat.zero_le _⟩
     exact yA (za _ _ _)
    ·have h2 : cmpF o x = 0 := by simpa using h2
     rw [if_pos h2] at hlr
     rw [if_pos trivial]
     exact hbk l put _ _ (by simpa using hlr) (by omega) ⟨by simp [SPu], by simp [HPu, fxS, chS, za], by kernel_rfl, Nat.zero_le _⟩
  ·have hge : i = f.length := by have := of_decide_eq_false hge; omega
   subst hge
   rw [List.drop_length] at hlr
   simp only [refL] at hlr
   refine ⟨fun h => ⟨⟨trivial, Nat.le_refl _, by omega⟩, fun _ => ?_⟩, fun h => ?_⟩
   ·have hp : put = false := by simpa using h
    rw [hp, if_neg (by simp)] at hlr
    rw [← hlr] at hq
    simp only [List.length_append, List.length_cons, List.length_nil] at hq
    refine ⟨fun h3 => ?_, fun h3 => ?_⟩
    ·have h3 : 1000 < l.length + (0 + 1) := by have := of_decide_eq_true h3; omega
     simp only [if_pos h3] at hq
     exact RetR.out0 hq (fun _ => by simp [resV, new2, new1, new0, zD]) (by simp [resV, exp2, exp1, exp0, ren0, eqA2, eqL1, envA, fxS, chS])
    ·have h3 : ¬ 1000 < l.length + (0 + 1) := by have := of_decide_eq_false h3; omega
     simp only [if_neg h3] at hq
     have e1 := yA (x := x) (za l.length 3 (fxG l))
     refine RetR.out0 hq (fun _ => ?_) ?_
     ·simp only [resV, new2, List.mem_cons, List.not_mem_nil, or_false, forall_eq_or_imp, forall_eq, new1]
      exact ⟨⟨jg (h := _) (i := 5) rfl (by omega) fun j o hj ho => by simp only [zg, Nat.zero_add]; rw [e1 j o hj ho]; exact kY _ _ _ ho, jg (i := 3) rfl (by omega) fun j o hj ho => by simp only [zg, Nat.zero_add]; exact kZ _ _ _ ho⟩, rfl⟩
     ·simp only [resV, exp2, List.map_cons, List.map_nil, exp1]
      rw [q9 (i := 5) rfl (by omega), q9 (i := 3) rfl (by omega)]
      simp [eqA2, eqL1, envA, fxS, chS, exp0, ren0, qW, za]
      exact fun j o hj ho => by simp only [zg, Nat.zero_add]; exact e1 j o hj ho
   ·have hp : put = true := by simpa using h
    rw [hp, if_pos rfl, List.append_nil] at hlr
    rw [← hlr] at hq
    refine ⟨fun h3 => ?_, fun h3 => ?_⟩
    ·have h3 : 1000 < l.length := by have := of_decide_eq_true h3; omega
     simp only [if_pos h3] at hq
     exact RetR.out0 hq (fun _ => by simp [resV, new2, new1, new0, zD]) (by simp [resV, exp2, exp1, exp0, ren0, eqA2, eqL1, envA, fxS, chS])
    ·have h3 : ¬ 1000 < l.length := by have := of_decide_eq_false h3; omega
     simp only [if_neg h3] at hq
     refine RetR.out0 hq (fun _ => ?_) ?_
     ·simp only [resV, new2, List.mem_cons, List.not_mem_nil, or_false, forall_eq_or_imp, forall_eq, new1]
      exact ⟨⟨jg (i := 5) rfl (by omega) fun j o hj ho => by simp only [zg, Nat.zero_add]; exact kY _ _ _ ho, jg (i := 3) rfl (by omega) fun j o hj ho => by simp only [zg, Nat.zero_add]; exact kZ _ _ _ ho⟩, rfl⟩
     ·simp only [resV, exp2, List.map_cons, List.map_nil, exp1]
      rw [q9 (i := 5) rfl (by omega), q9 (i := 3) rfl (by omega)]
      simp [eqA2, eqL1, envA, fxS, chS, exp0, ren0, qW, za]
theorem zdc : ze Tryz.prog 29 XJ := by
 refine zh (fn := Tryz.f29) (c := Tryz.f29.body.getD .skip) rfl rfl rfl fun p hp O w0 Q hq => ?_
 obtain ⟨⟨f, c⟩, ⟨a, d, v⟩⟩ := p
 obtain ⟨he, hs1, hs2⟩ := hp
 replace hq := hq _ rfl
 simp only at hq he hs1 hs2
 refine zc.run hmix Jv [2, 3, 4, 6, 7, 8, 55, 56, 57, 58, 72, 73, 74, 75, 76] 400 (T := .ex (fun (x : List Fx × List Ch) => eqL [AV.agg [AV.sl f.length 3 (fxG f), AV.sl c.length 4 (chG c)]] [AV.agg [AV.sl x.1.length 3 (fxG x.1), AV.sl x.2.length 4 (chG x.2)]] ∧ envP x) fun n => .all (fun (r : Int) => r = errE n.1 n.2) fun n => .ite (!decide (n = 0)) (.ex (fun (x : List Fx × List Ch) => eqL [AV.agg [AV.sl f.length 3 (fxG f), AV.sl c.length 4 (chG c)]] [AV.agg [AV.sl x.1.length 3 (fxG x.1), AV.sl x.2.length 4 (chG x.2)]] ∧ envP x) fun n => .all (fun (r : Int) => r = errE n.1 n.2) fun n => .leaf (.ret [.agg [.nils, .nils], .int .i64 n] [.box [.sl f.length 3 (fxG f), .sl c.length 4 (chG c)], .box [.str a, .int .i64 d, .str v], .box [.nils, .nils]])) (.ex (fun (x : List UInt8) => eqL [AV.str a] [AV.str x] ∧ x.length < 4611686018427387904) fun n => .all (fun (r : Bool) => r = zu n) fun n => .ex (fun (x : Int) => (!n) = false → eqL [AV.int .i64 d] [AV.int .i64 x] ∧ True) fun n_1 => .all (fun (x : Bool) => (!n) = false → x = dayB n_1) fun n_2 => .ite (bif !n then true else !n_2) (.leaf (.ret [.agg [.nils, .nils], .int .i64 2] [.box [.sl f.length 3 (fxG f), .sl c.length 4 (chG c)], .box [.str a, .int .i64 d, .str v], .box [.nils, .nils]])) (.ex (fun (x : List UInt8) => eqL [AV.str v] [AV.str x] ∧ x.length < 1099511627776) fun n => .all (fun (r : Int) => r = errR n) fun n => .ite (!decide (n = 0)) (.ex (fun (x : List UInt8) => eqL [AV.str v] [AV.str x] ∧ x.length < 1099511627776) fun n => .all (fun (r : Int) => r = errR n) fun n => .leaf (.ret [.agg [.nils, .nils], .int .i64 n] [.box [.sl f.length 3 (fxG f), .sl c.length 4 (chG c)], .box [.str a, .int .i64 d, .str v], .box [.nils, .nils]])) (.side (0 = 0 ∧ 0 ≤ 0 ∧ (0 + c.length) * 48 ≤ 140737488355328) (.leaf (.loop (Prod.fst (lps K29 0)) (Prod.snd (lps K29 0)) [(2, .ptr 0 0), (3, .ptr 1 0), (4, .ptr 2 0), (6, .ptr 4 0), (7, .bool false), (8, .int .i64 0), (55, .undef), (56, .undef), (57, .undef), (58, .undef), (72, .undef), (73, .undef), (74, .undef), (75, .undef), (76, .undef)] [.box [.sl f.length 3 (fxG f), .sl c.length 4 (chG c)], .box [.str a, .int .i64 d, .str v], .box [.nils, .nils], .arr (0 + c.length) 4 (appG 0 (zf 4 []) (chG c)), .box [.nils, .osl 3 4 0 (0 + c.length)]])))))) (by kernel_rfl) ?_
 simp only [Tree.holds, zd]
 have bad : ∀ (e : Int) (h : Heap), putF f c ⟨a, d, v⟩ = (([], []), e) → RetR XJ 0 Q [.agg [.nils, .nils], .int .i64 e] h := fun e h hr => by
  rw [hr] at hq
  exact RetR.out0 hq (fun _ => by simp [resV, new2, new1, new0, zD]) (by simp [resV, exp2, exp1, exp0, ren0, eqA2, eqL1, envA, fxS, chS])
 refine ⟨(f, c), ⟨by simp [za], he⟩, ⟨_, rfl⟩, ?_⟩
 rintro _ rfl
 refine ⟨fun h => ?_, fun h => ?_⟩
 ·have h : errE f c ≠ 0 := by simpa using h
  refine ⟨(f, c), ⟨by simp [za], he⟩, ⟨_, rfl⟩, ?_⟩
  rintro _ rfl
  exact bad _ _ (by simp [putF, h])
 ·have h : errE f c = 0 := by simpa using h
  refine ⟨a, ⟨by simp, by omega⟩, ⟨_, rfl⟩, ?_⟩
  rintro _ rfl
  refine ⟨d, fun _ => ⟨by simp, trivial⟩, ⟨_, fun _ => rfl⟩, ?_⟩
  intro b1 g1
  have key : (bif !zu a then true else !b1) = !(zu a && dayB d) := by
   cases hn : zu a with
   | false => rfl
   | true => rw [g1 (by rw [hn]; rfl)]; rfl
  rw [key]
  refine ⟨fun h2 => ?_, fun h2 => ?_⟩
  ·exact bad _ _ (by simp only [putF]; rw [if_neg (by simp [h]), if_pos (by simpa only [Bool.not_eq_true'] using h2)])
  ·have h2 : ¬ (zu a && dayB d) = false := by simpa using h2
   refine ⟨v, ⟨by simp, by omega⟩, ⟨_, rfl⟩, ?_⟩
   rintro _ rfl
   refine ⟨fun h3 => ?_, fun h3 => ?_⟩
   ·have h3 : errR v ≠ 0 := by simpa using h3
    refine ⟨v, ⟨by simp, by omega⟩, ⟨_, rfl⟩, ?_⟩
    rintro _ rfl
    exact bad _ _ (by simp only [putF]; rw [if_neg (by simp [h]), if_neg h2, if_pos h3])
   ·have h3 : ¬ errR v ≠ 0 := by simpa using h3
    obtain ⟨hb, _, _, ho, _⟩ := kh.1 h
    have hpl : refL cmpF ⟨a, d, v⟩ false f = zo cmpF ⟨a, d, v⟩ f := xM ue (vX ue ho)
    have hr : putF f c ⟨a, d, v⟩ = if 1000 < (refL cmpF ⟨a, d, v⟩ false f).length then (([], []), 22) else ((refL cmpF ⟨a, d, v⟩ false f, c), 0) := by
     simp only [putF]; rw [if_neg (by simp [h]), if_neg h2, if_neg h3, hpl]
    rw [hr] at hq
    refine ⟨⟨trivial, Nat.le_refl _, by omega⟩, fun _ => ?_⟩
    exact XQ f c ⟨a, d, v⟩ (by omega) (by omega) hq
def SCo (put : Bool) (i : Nat) : KV := [(2, .ptr 0 0), (3, .ptr 1 0), (4, .ptr 2 0), (6, .ptr 4 0), (7, .bool put), (8, .int .i64 (i : Int)), (53, .undef), (54, .undef), (55, .undef), (56, .undef), (70, .undef), (71, .undef), (72, .undef), (73, .undef), (74, .undef), (77, .undef), (78, .undef), (79, .undef), (80, .undef), (81, .undef)]
def HCo (f : List Fx) (c : List Ch) (x : Ch) (l : List Ch) : Heap := [.box [fxS f, chS c], .box [.str x.zb, .str x.name, .int .i64 x.date, .bool x.first], .box [.nils, .nils], .arr f.length 3 (fxG f), .box [.osl 3 3 0 f.length, .osl 5 4 0 l.length], .arr l.length 4 (chG l)]
def HCo0 (f : List Fx) (c : List Ch) (x : Ch) : Heap := [.box [fxS f, chS c], .box [.str x.zb, .str x.name, .int .i64 x.date, .bool x.first], .box [.nils, .nils], .arr (0 + f.length) 3 (appG 0 (zf 3 []) (fxG f)), .box [.osl 3 3 0 (0 + f.length), .nils]]
def HCo1 (f : List Fx) (c : List Ch) (x : Ch) : Heap := [.box [fxS f, chS c], .box [.str x.zb, .str x.name, .int .i64 x.date, .bool x.first], .box [.nils, .nils], .arr (0 + f.length) 3 (appG 0 (zf 3 []) (fxG f)), .box [.osl 3 3 0 (0 + f.length), .osl 5 4 0 0]]
def Xr : Ctr := ctrP true (fun p : (List Fx × List Ch) × Ch => [envA p.1.1 p.1.2, p.2.av]) (fun p => envP p.1 ∧ qj p.2) (fun p r => r = putC p.1.1 p.1.2 p.2) (fun _ (r : (List Fx × List Ch) × Int) => (.tup [envA r.1.1 r.1.2, .int .i64 r.2], []))
theorem Y2 {O : Nat → Prop} {w0 : World} {Q : AV × Heap → Prop} {Hs : Nat → KV → Heap → Prop} (f : List Fx) (c : List Ch) (x : Ch) (hf : f.length ≤ 1000) (hc : c.length ≤ 1000)
  (hq : Q (.tup [envA (if 1000 < (refL cmpC x false c).length then (([], []), 22) else ((f, refL cmpC x false c), 0) : (List Fx × List Ch) × Int).1.1 (if 1000 < (refL cmpC x false c).length then (([], []), 22) else ((f, refL cmpC x false c), 0) : (List Fx × List Ch) × Int).1.2, .int .i64 (if 1000 < (refL cmpC x false c).length then (([], []), 22) else ((f, refL cmpC x false c), 0) : (List Fx × List Ch) × Int).2], [])) :
  zc Tryz.prog Tryz.f30 O 0 w0 [] Hs (RetR Xr 0 Q) (.code (.loop (lps K30 0).1) :: (lps K30 0).2) (mk Tryz.f30.ntmps (SCo false 0) (HCo0 f c x)) := by
 refine zc.up [(4, fun _ _ => .undef)] (SCo false 0) (HCo1 f c x) (by simp [SCo, upKV, upA2, upA1, upA0]) (by simp [HCo0, HCo1, upH, upB, upL1, upA1, upA0, fxS, chS]) (by kernel_rfl) (by kernel_rfl) ?_
 refine zc.loop (ι := {p : Nat × Bool × List Ch // p.1 ≤ c.length ∧ p.2.2 ++ refL cmpC x p.2.1 (c.drop p.1) = refL cmpC x false c ∧ p.2.2.length ≤ 2 * p.1}) (fun p => SCo p.1.2.1 p.1.1) (fun p => HCo f c x p.1.2.2) (fun p => c.length - p.1.1) ⟨(0, false, []), Nat.zero_le _, by simp, by simp⟩ 0 ?_ ?_ (by kernel_rfl)
 ·exact ⟨by simp [SCo], ⟨by simp [fxS, chS, za], by simp [fxS, chS, za], by simp, ⟨by omega, rfl, vA _ _ _ _⟩, by simp, ⟨rfl, rfl, fun j o hj _ => by omega⟩, trivial⟩, by kernel_rfl, Nat.zero_le _⟩
 ·rintro ⟨⟨i, put, l⟩, hil, hlr, hll⟩
  simp only at hil hlr hll
  refine zc.run hmix Jv [2, 3, 4, 6, 7, 8, 53, 54, 55, 56, 70, 71, 72, 73, 74, 77, 78, 79, 80, 81] 400 (T := .ite (decide ((↑i : Int) < c.length)) (.side ((0 : Int) ≤ i ∧ (↑i : Int) < c.length) (.ex (fun (x_1 : Ch × Ch) => (!put) = true → eqL [AV.agg [AV.str (Ch.zb (List.getD c (Int.toNat (↑i : Int)) Ch.nil)), AV.str (Ch.name (List.getD c (Int.toNat (↑i : Int)) Ch.nil)), AV.int .i64 (Ch.date (List.getD c (Int.toNat (↑i : Int)) Ch.nil)), AV.bool (Ch.first (List.getD c (Int.toNat (↑i : Int)) Ch.nil))], AV.agg [AV.str x.zb, AV.str x.name, AV.int .i64 x.date, AV.bool x.first]] [AV.agg [AV.str x_1.1.zb, AV.str x_1.1.name, AV.int .i64 x_1.1.date, AV.bool x_1.1.first], AV.agg [AV.str x_1.2.zb, AV.str x_1.2.name, AV.int .i64 x_1.2.date, AV.bool x_1.2.first]] ∧ True) fun n => .all (fun (x : Bool) => (!put) = true → x = decide (cmpC n.1 n.2 < 0)) fun n => .ite (bif !put then !n else false) (.side (0 = 0 ∧ l.length ≤ l.length ∧ (l.length + 1) * 48 ≤ 140737488355328) (.ite (bif bif !decide (Ch.zb (List.getD c (Int.toNat (↑i : Int)) Ch.nil) = Ch.zb x) then true else !decide (Ch.name (List.getD c (Int.toNat (↑i : Int)) Ch.nil) = Ch.name x) then true else !decide (Ch.date (List.getD c (Int.toNat (↑i : Int)) Ch.nil) = Ch.date x)) (.side (0 = 0 ∧ l.length + 1 ≤ l.length + 1 ∧ (l.length + 1 + 1) * 48 ≤ 140737488355328) (.side (inR .i64 ((↑i : Int) + (1 : Int))) (.leaf (.back 0 [(2, .ptr 0 0), (3, .ptr 1 0), (4, .ptr 2 0), (6, .ptr 4 0), (7, .bool true), (8, .int .i64 ((↑i : Int) + (1 : Int))), (53, .undef), (54, .undef), (55, .undef), (56, .undef), (70, .undef), (71, .undef), (72, .undef), (73, .undef), (74, .undef), (77, .undef), (78, .undef), (79, .undef), (80, .undef), (81, .undef)] [.box [.sl f.length 3 (fxG f), .sl c.length 4 (chG c)], .box [.str x.zb, .str x.name, .int .i64 x.date, .bool x.first], .box [.nils, .nils], .arr f.length 3 (fxG f), .box [.osl 3 3 0 f.length, .osl 5 4 0 (l.length + 1 + 1)], .arr (l.length + 1 + 1) 4 (appG (l.length + 1) (appG l.length (chG l) (zg (zf 4 [.str x.zb, .str x.name, .int .i64 x.date, .bool x.first]) 0)) (zg (zf 4 [.str (Ch.zb (List.getD c (Int.toNat (↑i : Int)) Ch.nil)), .str (Ch.name (List.getD c (Int.toNat (↑i : Int)) Ch.nil)), .int .i64 (Ch.date (List.getD c (Int.toNat (↑i : Int)) Ch.nil)), .bool (Ch.first (List.getD c (Int.toNat (↑i : Int)) Ch.nil))]) 0)), .box [.str (Ch.zb (List.getD c (Int.toNat (↑i : Int)) Ch.nil)), .str (Ch.name (List.getD c (Int.toNat (↑i : Int)) Ch.nil)), .int .i64 (Ch.date (List.getD c (Int.toNat (↑i : Int)) Ch.nil)), .bool (Ch.first (List.getD c (Int.toNat (↑i : Int)) Ch.nil))], .arr 1 4 (zf 4 [.str x.zb, .str x.name, .int .i64 x.date, .bool x.first]), .arr 1 4 (zf 4 [.str (Ch.zb (List.getD c (Int.toNat (↑i : Int)) Ch.nil)), .str (Ch.name (List.getD c (Int.toNat (↑i : Int)) Ch.nil)), .int .i64 (Ch.date (List.getD c (Int.toNat (↑i : Int)) Ch.nil)), .bool (Ch.first (List.getD c (Int.toNat (↑i : Int)) Ch.nil))])])))) (.side (inR .i64 ((↑i : Int) + (1 : Int))) (.leaf (.back 0 [(2, .ptr 0 0), (3, .ptr 1 0), (4, .ptr 2 0), (6, .ptr 4 0), (7, .bool true), (8, .int .i64 ((↑i : Int) + (1 : Int))), (53, .undef), (54, .undef), (55, .undef), (56, .undef), (70, .undef), (71, .undef), (72, .undef), (73, .undef), (74, .undef), (77, .undef), (78, .undef), (79, .undef), (80, .undef), (81, .undef)] [.box [.sl f.length 3 (fxG f), .sl c.length 4 (chG c)], .box [.str x.zb, .str x.name, .int .i64 x.date, .bool x.first], .box [.nils, .nils], .arr f.length 3 (fxG f), .box [.osl 3 3 0 f.length, .osl 5 4 0 (l.length + 1)], .arr (l.length + 1) 4 (appG l.length (chG l) (zg (zf 4 [.str x.zb, .str x.name, .int .i64 x.date, .bool x.first]) 0)), .box [.str (Ch.zb (List.getD c (Int.toNat (↑i : Int)) Ch.nil)), .str (Ch.name (List.getD c (Int.toNat (↑i : Int)) Ch.nil)), .int .i64 (Ch.date (List.getD c (Int.toNat (↑i : Int)) Ch.nil)), .bool (Ch.first (List.getD c (Int.toNat (↑i : Int)) Ch.nil))], .arr 1 4 (zf 4 [.str x.zb, .str x.name, .int .i64 x.date, .bool x.first])]))))) (.ite (bif bif !decide (Ch.zb (List.getD c (Int.toNat (↑i : Int)) Ch.nil) = Ch.zb x) then true else !decide (Ch.name (List.getD c (Int.toNat (↑i : Int)) Ch.nil) = Ch.name x) then true else !decide (Ch.date (List.getD c (Int.toNat (↑i : Int)) Ch.nil) = Ch.date x)) (.side (0 = 0 ∧ l.length ≤ l.length ∧ (l.length + 1) * 48 ≤ 140737488355328) (.side (inR .i64 ((↑i : Int) + (1 : Int))) (.leaf (.back 0 [(2, .ptr 0 0), (3, .ptr 1 0), (4, .ptr 2 0), (6, .ptr 4 0), (7, .bool put), (8, .int .i64 ((↑i : Int) + (1 : Int))), (53, .undef), (54, .undef), (55, .undef), (56, .undef), (70, .undef), (71, .undef), (72, .undef), (73, .undef), (74, .undef), (77, .undef), (78, .undef), (79, .undef), (80, .undef), (81, .undef)] [.box [.sl f.length 3 (fxG f), .sl c.length 4 (chG c)], .box [.str x.zb, .str x.name, .int .i64 x.date, .bool x.first], .box [.nils, .nils], .arr f.length 3 (fxG f), .box [.osl 3 3 0 f.length, .osl 5 4 0 (l.length + 1)], .arr (l.length + 1) 4 (appG l.length (chG l) (zg (zf 4 [.str (Ch.zb (List.getD c (Int.toNat (↑i : Int)) Ch.nil)), .str (Ch.name (List.getD c (Int.toNat (↑i : Int)) Ch.nil)), .int .i64 (Ch.date (List.getD c (Int.toNat (↑i : Int)) Ch.nil)), .bool (Ch.first (List.getD c (Int.toNat (↑i : Int)) Ch.nil))]) 0)), .box [.str (Ch.zb (List.getD c (Int.toNat (↑i : Int)) Ch.nil)), .str (Ch.name (List.getD c (Int.toNat (↑i : Int)) Ch.nil)), .int .i64 (Ch.date (List.getD c (Int.toNat (↑i : Int)) Ch.nil)), .bool (Ch.first (List.getD c (Int.toNat (↑i : Int)) Ch.nil))], .arr 1 4 (zf 4 [.str (Ch.zb (List.getD c (Int.toNat (↑i : Int)) Ch.nil)), .str (Ch.name (List.getD c (Int.toNat (↑i : Int)) Ch.nil)), .int .i64 (Ch.date (List.getD c (Int.toNat (↑i : Int)) Ch.nil)), .bool (Ch.first (List.getD c (Int.toNat (↑i : Int)) Ch.nil))])])))) (.side (inR .i64 ((↑i : Int) + (1 : Int))) (.leaf (.back 0 [(2, .ptr 0 0), (3, .ptr 1 0), (4, .ptr 2 0), (6, .ptr 4 0), (7, .bool put), (8, .int .i64 ((↑i : Int) + (1 : Int))), (53, .undef), (54, .undef), (55, .undef), (56, .undef), (70, .undef), (71, .undef), (72, .undef), (73, .undef), (74, .undef), (77, .undef), (78, .undef), (79, .undef), (80, .undef), (81, .undef)] [.box [.sl f.length 3 (fxG f), .sl c.length 4 (chG c)], .box [.str x.zb, .str x.name, .int .i64 x.date, .bool x.first], .box [.nils, .nils], .arr f.length 3 (fxG f), .box [.osl 3 3 0 f.length, .osl 5 4 0 l.length], .arr l.length 4 (chG l), .box [.str (Ch.zb (List.getD c (Int.toNat (↑i : Int)) Ch.nil)), .str (Ch.name (List.getD c (Int.toNat (↑i : Int)) Ch.nil)), .int .i64 (Ch.date (List.getD c (Int.toNat (↑i : Int)) Ch.nil)), .bool (Ch.first (List.getD c (Int.toNat (↑i : Int)) Ch.nil))]])))))) (.ite (!put) (.side (0 = 0 ∧ l.length ≤ l.length ∧ (l.length + 1) * 48 ≤ 140737488355328) (.ite (decide ((1000 : Int) < (↑(l.length + 1) : Int))) (.leaf (.ret [.agg [.nils, .nils], .int .i64 22] [.box [.sl f.length 3 (fxG f), .sl c.length 4 (chG c)], .box [.str x.zb, .str x.name, .int .i64 x.date, .bool x.first], .box [.nils, .nils], .arr f.length 3 (fxG f), .box [.osl 3 3 0 f.length, .osl 5 4 0 (l.length + 1)], .arr (l.length + 1) 4 (appG l.length (chG l) (zg (zf 4 [.str x.zb, .str x.name, .int .i64 x.date, .bool x.first]) 0)), .arr 1 4 (zf 4 [.str x.zb, .str x.name, .int .i64 x.date, .bool x.first])])) (.leaf (.ret [.agg [.osl 3 3 0 f.length, .osl 5 4 0 (l.length + 1)], .int .i64 0] [.box [.sl f.length 3 (fxG f), .sl c.length 4 (chG c)], .box [.str x.zb, .str x.name, .int .i64 x.date, .bool x.first], .box [.osl 3 3 0 f.length, .osl 5 4 0 (l.length + 1)], .arr f.length 3 (fxG f), .box [.osl 3 3 0 f.length, .osl 5 4 0 (l.length + 1)], .arr (l.length + 1) 4 (appG l.length (chG l) (zg (zf 4 [.str x.zb, .str x.name, .int .i64 x.date, .bool x.first]) 0)), .arr 1 4 (zf 4 [.str x.zb, .str x.name, .int .i64 x.date, .bool x.first])])))) (.ite (decide ((1000 : Int) < l.length)) (.leaf (.ret [.agg [.nils, .nils], .int .i64 22] [.box [.sl f.length 3 (fxG f), .sl c.length 4 (chG c)], .box [.str x.zb, .str x.name, .int .i64 x.date, .bool x.first], .box [.nils, .nils], .arr f.length 3 (fxG f), .box [.osl 3 3 0 f.length, .osl 5 4 0 l.length], .arr l.length 4 (chG l)])) (.leaf (.ret [.agg [.osl 3 3 0 f.length, .osl 5 4 0 l.length], .int .i64 0] [.box [.sl f.length 3 (fxG f), .sl c.length 4 (chG c)], .box [.str x.zb, .str x.name, .int .i64 x.date, .bool x.first], .box [.osl 3 3 0 f.length, .osl 5 4 0 l.length], .arr f.length 3 (fxG f), .box [.osl 3 3 0 f.length, .osl 5 4 0 l.length], .arr l.length 4 (chG l)]))))) (by kernel_rfl) ?_
  simp only [Tree.holds, zd, inR, lo, hi, Int.toNat_natCast, Yf]
  refine ⟨fun hlt => ?_, fun hge => ?_⟩
  ·have hlt : i < c.length := by have := of_decide_eq_true hlt; omega
   rw [Vr (z := Ch.nil) hlt] at hlr
   obtain ⟨o, ho⟩ : ∃ o, c.getD i Ch.nil = o := ⟨_, rfl⟩
   simp only [ho] at hlr ⊢
   have hbk : ∀ (l' : List Ch) (put' : Bool) (kv : KV) (h : Heap), l' ++ refL cmpC x put' (c.drop (i + 1)) = refL cmpC x false c → l'.length ≤ 2 * (i + 1) → LeK 0 Tryz.f30.ntmps kv h (SCo put' (i + 1)) (HCo f c x l') →
     ∃ x' : {p : Nat × Bool × List Ch // p.1 ≤ c.length ∧ p.2.2 ++ refL cmpC x p.2.1 (c.drop p.1) = refL cmpC x false c ∧ p.2.2.length ≤ 2 * p.1}, c.length - x'.1.1 < c.length - i ∧ LeK 0 Tryz.f30.ntmps kv h (SCo x'.1.2.1 x'.1.1) (HCo f c x x'.1.2.2) := fun l' put' kv h g1 g2 g3 => ⟨⟨(i + 1, put', l'), hlt, g1, g2⟩, by show c.length - (i + 1) < c.length - i; omega, g3⟩
   refine ⟨by omega, fun _ => ⟨(o, x), fun _ => ⟨by simp, trivial⟩, ⟨_, fun _ => rfl⟩, ?_⟩⟩
   intro b hb
   have hput : (bif !put then !b else false) = true → put = false ∧ ¬ cmpC o x < 0 := fun h => by
    cases put with
    | true => cases h
    | false => rw [hb rfl] at h; exact ⟨rfl, by simpa using h⟩
   have hput2 : (bif !put then !b else false) = false → (put || !decide (cmpC o x < 0)) = put ∧ ¬ (put = false ∧ ¬ cmpC o x < 0) := fun h => by
    cases put with
    | true => exact ⟨rfl, by simp⟩
    | false =>
     rw [hb rfl] at h
     have h : cmpC o x < 0 := by simpa using h
     rw [decide_eq_true h]
     exact ⟨rfl, fun h2 => h2.2 h⟩
   refine ⟨fun h => ?_, fun h => ?_⟩
   ·obtain ⟨hp, hn⟩ := hput h
    rw [if_pos ⟨hp, hn⟩, decide_eq_false hn, Bool.not_false, Bool.or_true] at hlr
    refine ⟨⟨trivial, Nat.le_refl _, by omega⟩, fun _ => ⟨fun h2 => ?_, fun h2 => ⟨by omega, fun _ => ?_⟩⟩⟩
    ·have h2 : ¬ cmpC o x = 0 := by simpa using h2
     rw [if_neg h2] at hlr
     refine ⟨⟨trivial, Nat.le_refl _, by omega⟩, fun _ => ⟨by omega, fun _ => ?_⟩⟩
     rw [if_pos trivial]
     refine hbk (l ++ [x] ++ [o]) true _ _ (by simpa using hlr) (by simp; omega) ⟨by simp [SCo], ⟨by simp [fxS, chS, za], by simp, by simp, by simp [za], by simp, ⟨by simp, rfl, ?_⟩, trivial⟩, by kernel_rfl, Nat.zero_le _⟩
     have := yy (x := o) (l := l ++ [x]) (g := appG l.length (chG l) (zg (zf 4 [.str x.zb, .str x.name, .int .i64 x.date, .bool x.first]) 0)) (by simpa using yy (za _ _ _))
     simpa using this
    ·have h2 : cmpC o x = 0 := by simpa using h2
     rw [if_pos h2] at hlr
     rw [if_pos trivial]
     refine hbk (l ++ [x]) true _ _ (by simpa using hlr) (by simp; omega) ⟨by simp [SCo], ⟨by simp [fxS, chS, za], by simp, by simp, by simp [za], by simp, ⟨by simp, rfl, ?_⟩, trivial⟩, by kernel_rfl, Nat.zero_le _⟩
     exact yy (za _ _ _)
   ·obtain ⟨hp, hn⟩ := hput2 h
    rw [if_neg hn, hp] at hlr
    refine ⟨fun h2 => ?_, fun h2 => ⟨by omega, fun _ => ?_⟩⟩
    ·have h2 : ¬ cmpC o x = 0 := by simpa using h2
     rw [if_neg h2] at hlr
     refine ⟨⟨trivial, Nat.le_refl _, by omega⟩, fun _ => ⟨by omega, fun _ => ?_⟩⟩
     rw [if_pos trivial]
     refine hbk (l ++ [o]) put _ _ (by simpa using hlr) (by simp; omega) ⟨by simp [SCo], ⟨by simp [fxS, chS, za], by simp, by simp, by simp [za], by simp, ⟨by simp, rfl, ?_⟩, trivial⟩, by kernel_rfl, Nat.zero_le _⟩
     exact yy (za _ _ _)
    ·have h2 : cmpC o x = 0 := by simpa using h2
     rw [if_pos h2] at hlr
     rw [if_pos trivial]
     exact hbk l put _ _ (by simpa using hlr) (by omega) ⟨by simp [SCo], by simp [HCo, fxS, chS, za], by kernel_rfl, Nat.zero_le _⟩
  ·have hge : i = c.length := by have := of_decide_eq_false hge; omega
   subst hge
   rw [List.drop_length] at hlr
   simp only [refL] at hlr
   refine ⟨fun h => ⟨⟨trivial, Nat.le_refl _, by omega⟩, fun _ => ?_⟩, fun h => ?_⟩
   ·have hp : put = false := by simpa using h
    rw [hp, if_neg (by simp)] at hlr
    rw [← hlr] at hq
    simp only [List.length_append, List.length_cons, List.length_nil] at hq
    refine ⟨fun h3 => ?_, fun h3 => ?_⟩
    ·have h3 : 1000 < l.length + (0 + 1) := by have := of_decide_eq_true h3; omega
     simp only [if_pos h3] at hq
     exact RetR.out0 hq (fun _ => by simp [resV, new2, new1, new0, zD]) (by simp [resV, exp2, exp1, exp0, ren0, eqA2, eqL1, envA, fxS, chS])
    ·have h3 : ¬ 1000 < l.length + (0 + 1) := by have := of_decide_eq_false h3; omega
     simp only [if_neg h3] at hq
     have e1 := yy (x := x) (za l.length 4 (chG l))
     refine RetR.out0 hq (fun _ => ?_) ?_
     ·simp only [resV, new2, List.mem_cons, List.not_mem_nil, or_false, forall_eq_or_imp, forall_eq, new1]
      exact ⟨⟨jg (i := 3) rfl (by omega) fun j o hj ho => by simp only [zg, Nat.zero_add]; exact kY _ _ _ ho, jg (i := 5) rfl (by omega) fun j o hj ho => by simp only [zg, Nat.zero_add]; rw [e1 j o hj ho]; exact kZ _ _ _ ho⟩, rfl⟩
     ·simp only [resV, exp2, List.map_cons, List.map_nil, exp1]
      rw [q9 (i := 3) rfl (by omega), q9 (i := 5) rfl (by omega)]
      simp [eqA2, eqL1, envA, fxS, chS, exp0, ren0, qW, za]
      exact fun j o hj ho => by simp only [zg, Nat.zero_add]; exact e1 j o hj ho
   ·have hp : put = true := by simpa using h
    rw [hp, if_pos rfl, List.append_nil] at hlr
    rw [← hlr] at hq
    refine ⟨fun h3 => ?_, fun h3 => ?_⟩
    ·have h3 : 1000 < l.length := by have := of_decide_eq_true h3; omega
     simp only [if_pos h3] at hq
     exact RetR.out0 hq (fun _ => by simp [resV, new2, new1, new0, zD]) (by simp [resV, exp2, exp1, exp0, ren0, eqA2, eqL1, envA, fxS, chS])
    ·have h3 : ¬ 1000 < l.length := by have := of_decide_eq_false h3; omega
     simp only [if_neg h3] at hq
     refine RetR.out0 hq (fun _ => ?_) ?_
     ·simp only [resV, new2, List.mem_cons, List.not_mem_nil, or_false, forall_eq_or_imp, forall_eq, new1]
      exact ⟨⟨jg (i := 3) rfl (by omega) fun j o hj ho => by simp only [zg, Nat.zero_add]; exact kY _ _ _ ho, jg (i := 5) rfl (by omega) fun j o hj ho => by simp only [zg, Nat.zero_add]; exact kZ _ _ _ ho⟩, rfl⟩
     ·simp only [resV, exp2, List.map_cons, List.map_nil, exp1]
      rw [q9 (i := 3) rfl (by omega), q9 (i := 5) rfl (by omega)]
      simp [eqA2, eqL1, envA, fxS, chS, exp0, ren0, qW, za]
theorem zdm : ze Tryz.prog 30 Xr := by
 refine zh (fn := Tryz.f30) (c := Tryz.f30.body.getD .skip) rfl rfl rfl fun p hp O w0 Q hq => ?_
 obtain ⟨⟨f, c⟩, ⟨a, v, d, b⟩⟩ := p
 obtain ⟨he, hs1, hs2⟩ := hp
 replace hq := hq _ rfl
 simp only at hq he hs1 hs2
 refine zc.run hmix Jv [2, 3, 4, 6, 7, 8, 53, 54, 55, 56, 70, 71, 72, 73, 74, 77, 78, 79, 80, 81] 400 (T := .ex (fun (x : List Fx × List Ch) => eqL [AV.agg [AV.sl f.length 3 (fxG f), AV.sl c.length 4 (chG c)]] [AV.agg [AV.sl x.1.length 3 (fxG x.1), AV.sl x.2.length 4 (chG x.2)]] ∧ envP x) fun n => .all (fun (r : Int) => r = errE n.1 n.2) fun n => .ite (!decide (n = 0)) (.ex (fun (x : List Fx × List Ch) => eqL [AV.agg [AV.sl f.length 3 (fxG f), AV.sl c.length 4 (chG c)]] [AV.agg [AV.sl x.1.length 3 (fxG x.1), AV.sl x.2.length 4 (chG x.2)]] ∧ envP x) fun n => .all (fun (r : Int) => r = errE n.1 n.2) fun n => .leaf (.ret [.agg [.nils, .nils], .int .i64 n] [.box [.sl f.length 3 (fxG f), .sl c.length 4 (chG c)], .box [.str a, .str v, .int .i64 d, .bool b], .box [.nils, .nils]])) (.ex (fun (x : List UInt8) => eqL [AV.str a] [AV.str x] ∧ x.length < 4611686018427387904) fun n => .all (fun (r : Bool) => r = zu n) fun n => .ex (fun (x : List UInt8) => (!n) = false → eqL [AV.str v] [AV.str x] ∧ x.length < 4611686018427387904) fun n_1 => .all (fun (x : Bool) => (!n) = false → x = zu n_1) fun n_2 => .ex (fun (x : Int) => (bif !n then true else !n_2) = false → eqL [AV.int .i64 d] [AV.int .i64 x] ∧ True) fun n_3 => .all (fun (x : Bool) => (bif !n then true else !n_2) = false → x = dayB n_3) fun n_4 => .ite (bif bif !n then true else !n_2 then true else !n_4) (.leaf (.ret [.agg [.nils, .nils], .int .i64 2] [.box [.sl f.length 3 (fxG f), .sl c.length 4 (chG c)], .box [.str a, .str v, .int .i64 d, .bool b], .box [.nils, .nils]])) (.side (0 = 0 ∧ 0 ≤ 0 ∧ (0 + f.length) * 40 ≤ 140737488355328) (.leaf (.loop (Prod.fst (lps K30 0)) (Prod.snd (lps K30 0)) [(2, .ptr 0 0), (3, .ptr 1 0), (4, .ptr 2 0), (6, .ptr 4 0), (7, .bool false), (8, .int .i64 0), (53, .undef), (54, .undef), (55, .undef), (56, .undef), (70, .undef), (71, .undef), (72, .undef), (73, .undef), (74, .undef), (77, .undef), (78, .undef), (79, .undef), (80, .undef), (81, .undef)] [.box [.sl f.length 3 (fxG f), .sl c.length 4 (chG c)], .box [.str a, .str v, .int .i64 d, .bool b], .box [.nils, .nils], .arr (0 + f.length) 3 (appG 0 (zf 3 []) (fxG f)), .box [.osl 3 3 0 (0 + f.length), .nils]]))))) (by kernel_rfl) ?_
 simp only [Tree.holds, zd]
 have bad : ∀ (e : Int) (h : Heap), putC f c ⟨a, v, d, b⟩ = (([], []), e) → RetR Xr 0 Q [.agg [.nils, .nils], .int .i64 e] h := fun e h hr => by
  rw [hr] at hq
  exact RetR.out0 hq (fun _ => by simp [resV, new2, new1, new0, zD]) (by simp [resV, exp2, exp1, exp0, ren0, eqA2, eqL1, envA, fxS, chS])
 refine ⟨(f, c), ⟨by simp [za], he⟩, ⟨_, rfl⟩, ?_⟩
 rintro _ rfl
 refine ⟨fun h => ?_, fun h => ?_⟩
 ·have h : errE f c ≠ 0 := by simpa using h
  refine ⟨(f, c), ⟨by simp [za], he⟩, ⟨_, rfl⟩, ?_⟩
  rintro _ rfl
  exact bad _ _ (by simp [putC, h])
 ·have h : errE f c = 0 := by simpa using h
  refine ⟨a, ⟨by simp, by omega⟩, ⟨_, rfl⟩, ?_⟩
  rintro _ rfl
  refine ⟨v, fun _ => ⟨by simp, by omega⟩, ⟨_, fun _ => rfl⟩, ?_⟩
  intro b1 g1
  refine ⟨d, fun _ => ⟨by simp, trivial⟩, ⟨_, fun _ => rfl⟩, ?_⟩
  intro b2 g2
  have key : (bif bif !zu a then true else !b1 then true else !b2) = !okC ⟨a, v, d, b⟩ := by
   simp only [okC]
   cases hn : zu a with
   | false => rfl
   | true =>
    have g1 := g1 (by rw [hn]; rfl)
    subst g1
    cases hv : zu v with
    | false => rfl
    | true => rw [g2 (by rw [hn, hv]; rfl)]; rfl
  rw [key]
  refine ⟨fun h2 => ?_, fun h2 => ?_⟩
  ·exact bad _ _ (by simp only [putC]; rw [if_neg (by simp [h]), if_pos (by simpa only [Bool.not_eq_true'] using h2)])
  ·have h2 : ¬ okC ⟨a, v, d, b⟩ = false := by simpa using h2
   obtain ⟨hb, _, _, _, ho⟩ := kh.1 h
   have hpl : refL cmpC ⟨a, v, d, b⟩ false c = zo cmpC ⟨a, v, d, b⟩ c := xM uB (vX uB ho)
   have hr : putC f c ⟨a, v, d, b⟩ = if 1000 < (refL cmpC ⟨a, v, d, b⟩ false c).length then (([], []), 22) else ((f, refL cmpC ⟨a, v, d, b⟩ false c), 0) := by
    simp only [putC]; rw [if_neg (by simp [h]), if_neg h2, hpl]
   rw [hr] at hq
   refine ⟨⟨trivial, Nat.le_refl _, by omega⟩, fun _ => ?_⟩
   exact Y2 f c ⟨a, v, d, b⟩ (by omega) (by omega) hq
end Go.Proofs.Tryz
end

/- What is known: size; the code's finding. -/
section
set_option maxRecDepth 100000
open Go Go.Sx Go.Proofs Go.Nov
namespace Go.Proofs.Tryz
attribute [local simp] eqKV eqA eqA0 eqH eqB eqL eqL0
def Jt : Ctr := ctrP true (fun l : List Fx => [fxS l]) (fun l => l.length < 2 ^ 40) (fun _ (_ : Unit) => True) (fun l _ => (.osl 0 3 0 l.length, [.arr l.length 3 (fxG l)]))
def Jy : Ctr := ctrP true (fun l : List Ch => [chS l]) (fun l => l.length < 2 ^ 40) (fun _ (_ : Unit) => True) (fun l _ => (.osl 0 4 0 l.length, [.arr l.length 4 (chG l)]))
theorem Jc : ze Tryz.prog 43 Jt := by
 refine yc (fn := Tryz.f43) (c := Tryz.f43.body.getD .skip) rfl rfl rfl fun l hl O w0 Q hq => ?_
 replace hq := hq () trivial
 refine zc.run hmix zr [] 400 (T := .all (fun (b : Bool) => 0 < l.length → b = false) fun n => .ite n (.leaf (.ret [.nils] [])) (.side (0 = 0 ∧ 0 ≤ 0 ∧ (0 + l.length) * 40 ≤ 140737488355328) (.leaf (.ret [.osl 0 3 0 (0 + l.length)] [.arr (0 + l.length) 3 (appG 0 (zf 3 []) (fxG l))])))) (by kernel_rfl) ?_
 simp only [Tree.holds, zd]
 refine ⟨⟨false, fun _ => rfl⟩, fun b hb => ⟨fun h => ?_, fun h => ⟨⟨trivial, Nat.le_refl _, by omega⟩, fun _ => ?_⟩⟩⟩
 ·have h0 : l = [] := by
   rcases Nat.eq_zero_or_pos l.length with h0 | h0
   ·exact List.length_eq_zero_iff.1 h0
   ·rw [hb h0] at h; cases h
  subst h0
  refine RetR.scal (.inr ⟨.osl 0 3 0 0, [(3, fxG [])], by simp [upA2, upA1, upA0], ?_⟩) (r := .nils) rfl (by simp [resV])
  exact hq
 ·refine RetR.outs [0] rfl rfl (.inl hq) (fun _ => ⟨?_, ?_⟩) ?_ ?_ rfl
  ·simp [resV, new2, new1, new0, zq]
  ·simp only [List.mem_cons, List.not_mem_nil, or_false, forall_eq]
   exact Zg (vA _ _ _ _)
  ·simp [resV, exp2, exp1, exp0, zq, eqA2, eqL1]
  ·exact ⟨⟨by omega, rfl, vA _ _ _ _⟩, trivial⟩
theorem QB : ze Tryz.prog 40 Jy := by
 refine yc (fn := Tryz.f40) (c := Tryz.f40.body.getD .skip) rfl rfl rfl fun l hl O w0 Q hq => ?_
 replace hq := hq () trivial
 refine zc.run hmix zr [] 400 (T := .all (fun (b : Bool) => 0 < l.length → b = false) fun n => .ite n (.leaf (.ret [.nils] [])) (.side (0 = 0 ∧ 0 ≤ 0 ∧ (0 + l.length) * 48 ≤ 140737488355328) (.leaf (.ret [.osl 0 4 0 (0 + l.length)] [.arr (0 + l.length) 4 (appG 0 (zf 4 []) (chG l))])))) (by kernel_rfl) ?_
 simp only [Tree.holds, zd]
 refine ⟨⟨false, fun _ => rfl⟩, fun b hb => ⟨fun h => ?_, fun h => ⟨⟨trivial, Nat.le_refl _, by omega⟩, fun _ => ?_⟩⟩⟩
 ·have h0 : l = [] := by
   rcases Nat.eq_zero_or_pos l.length with h0 | h0
   ·exact List.length_eq_zero_iff.1 h0
   ·rw [hb h0] at h; cases h
  subst h0
  refine RetR.scal (.inr ⟨.osl 0 4 0 0, [(4, chG [])], by simp [upA2, upA1, upA0], ?_⟩) (r := .nils) rfl (by simp [resV])
  exact hq
 ·refine RetR.outs [0] rfl rfl (.inl hq) (fun _ => ⟨?_, ?_⟩) ?_ ?_ rfl
  ·simp [resV, new2, new1, new0, zq]
  ·simp only [List.mem_cons, List.not_mem_nil, or_false, forall_eq]
   exact Ze (vA _ _ _ _)
  ·simp [resV, exp2, exp1, exp0, zq, eqA2, eqL1]
  ·exact ⟨⟨by omega, rfl, vA _ _ _ _⟩, trivial⟩
def HIdF (x : Fx) : Heap := [.box [.fn 39 [] []], .box [.str x.name, .int .i64 x.date, .str x.value]]
def HIdC (x : Ch) : Heap := [.box [.fn 42 [] []], .box [.str x.zb, .str x.name, .int .i64 x.date, .bool x.first]]
def ze2 : Ctr := ctrT false false (fun p : Fx × Fx => [p.1.av, .ptr 0 0, .ptr 1 0]) (fun p => HIdF p.2) (fun _ => True) (fun p r => r = decide (cmpF p.1 p.2 = 0)) (fun p (r : Bool) => (.bool r, HIdF p.2))
def zee : Ctr := ctrT false false (fun p : Ch × Ch => [p.1.av, .ptr 0 0, .ptr 1 0]) (fun p => HIdC p.2) (fun _ => True) (fun p r => r = decide (cmpC p.1 p.2 = 0)) (fun p (r : Bool) => (.bool r, HIdC p.2))
noncomputable def GI1 : Nat → Option Ctr := fun f => if f = 39 then some (yr) else if f = 42 then some (yM) else none
theorem zbc : ∀ g c, GI1 g = some c → ze Tryz.prog g c := okIf x9 (okIf xQ (zn))
theorem zd6 : ze Tryz.prog 87 ze2 := by
 refine jh (fn := Tryz.f87) (c := Tryz.f87.body.getD .skip) rfl rfl rfl (fun h => by cases h) fun p hp O w0 σ0 Q hl0 hq => ?_
 obtain ⟨⟨a, d, v⟩, ⟨b, e, u⟩⟩ := p
 replace hq := hq _ rfl
 simp only at hq
 refine zc.run hmix zbc [] 400 (T := .ex (fun (x : Fx × Fx) => eqL [AV.agg [AV.str a, AV.int .i64 d, AV.str v], AV.agg [AV.str b, AV.int .i64 e, AV.str u]] [AV.agg [AV.str x.1.name, AV.int .i64 x.1.date, AV.str x.1.value], AV.agg [AV.str x.2.name, AV.int .i64 x.2.date, AV.str x.2.value]] ∧ True) fun n => .all (fun (r : Int) => r = cmpF n.1 n.2) fun n => .leaf (.ret [.bool (decide (n = 0))] [.box [.fn 39 [] []], .box [.str b, .int .i64 e, .str u], .box [.str a, .int .i64 d, .str v]])) (by kernel_rfl) ?_
 simp only [Tree.holds, zd]
 refine ⟨(⟨a, d, v⟩, ⟨b, e, u⟩), ⟨by simp, trivial⟩, ⟨_, rfl⟩, ?_⟩
 rintro _ rfl
 exact RetR.keep [0, 1] rfl rfl (by show ∀ j, j < 2 → _; decide) rfl hq (by simp [resV, exp2, exp1, exp0, ren0, eqA2]) (by simp [expH, expB, exp1, exp0, ren0, HIdF]) rfl
theorem zdt : ze Tryz.prog 92 zee := by
 refine jh (fn := Tryz.f92) (c := Tryz.f92.body.getD .skip) rfl rfl rfl (fun h => by cases h) fun p hp O w0 σ0 Q hl0 hq => ?_
 obtain ⟨⟨a, v, d, x⟩, ⟨b, u, e, y⟩⟩ := p
 replace hq := hq _ rfl
 simp only at hq
 refine zc.run hmix zbc [] 400 (T := .ex (fun (x_1 : Ch × Ch) => eqL [AV.agg [AV.str a, AV.str v, AV.int .i64 d, AV.bool x], AV.agg [AV.str b, AV.str u, AV.int .i64 e, AV.bool y]] [AV.agg [AV.str x_1.1.zb, AV.str x_1.1.name, AV.int .i64 x_1.1.date, AV.bool x_1.1.first], AV.agg [AV.str x_1.2.zb, AV.str x_1.2.name, AV.int .i64 x_1.2.date, AV.bool x_1.2.first]] ∧ True) fun n => .all (fun (r : Int) => r = cmpC n.1 n.2) fun n => .leaf (.ret [.bool (decide (n = 0))] [.box [.fn 42 [] []], .box [.str b, .str u, .int .i64 e, .bool y], .box [.str a, .str v, .int .i64 d, .bool x]])) (by kernel_rfl) ?_
 simp only [Tree.holds, zd]
 refine ⟨(⟨a, v, d, x⟩, ⟨b, u, e, y⟩), ⟨by simp, trivial⟩, ⟨_, rfl⟩, ?_⟩
 rintro _ rfl
 exact RetR.keep [0, 1] rfl rfl (by show ∀ j, j < 2 → _; decide) rfl hq (by simp [resV, exp2, exp1, exp0, ren0, eqA2]) (by simp [expH, expB, exp1, exp0, ren0, HIdC]) rfl
def SIdF (l : List Fx) (i : Nat) : KV := [(0, fxS l), (1, .fn 87 [] [.ptr 0 0, .ptr 1 0]), (7, .int .i64 (l.length : Int)), (8, .int .i64 (i : Int))]
def SIdC (l : List Ch) (i : Nat) : KV := [(0, chS l), (1, .fn 92 [] [.ptr 0 0, .ptr 1 0]), (7, .int .i64 (l.length : Int)), (8, .int .i64 (i : Int))]
def zaq : Ctr := ctrT false false (fun p : List Fx × Fx => [fxS p.1, .fn 87 [] [.ptr 0 0, .ptr 1 0]]) (fun p => HIdF p.2) (fun p => p.1.length < 2 ^ 40) (fun p r => r = idxB (fun x => decide (cmpF x p.2 = 0)) p.1) (fun p (r : Int) => (.int .i64 r, HIdF p.2))
def zbw : Ctr := ctrT false false (fun p : List Ch × Ch => [chS p.1, .fn 92 [] [.ptr 0 0, .ptr 1 0]]) (fun p => HIdC p.2) (fun p => p.1.length < 2 ^ 40) (fun p r => r = idxB (fun x => decide (cmpC x p.2 = 0)) p.1) (fun p (r : Int) => (.int .i64 r, HIdC p.2))
noncomputable def GI2 : Nat → Option Ctr := fun f => if f = 87 then some (ze2) else if f = 92 then some (zee) else none
theorem JW : ∀ g c, GI2 g = some c → ze Tryz.prog g c := okIf zd6 (okIf zdt (zn))
theorem zd3 : ze Tryz.prog 81 zaq := by
 refine jh (fn := Tryz.f81) (c := Tryz.f81.body.getD .skip) rfl rfl rfl (fun h => by cases h) fun p hl O w0 σ0 Q hl0 hq => ?_
 obtain ⟨l, x⟩ := p
 replace hq := hq _ rfl
 simp only at hq hl
 refine zc.run hmix JW [0, 1, 7, 8] 400 (T := .leaf (.loop (Prod.fst (lps K81 0)) (Prod.snd (lps K81 0)) [(0, .sl l.length 3 (fxG l)), (1, .fn 87 [] [.ptr 0 0, .ptr 1 0]), (7, .int .i64 l.length), (8, .int .i64 0)] [.box [.fn 39 [] []], .box [.str x.name, .int .i64 x.date, .str x.value]])) (by kernel_rfl) ?_
 simp only [Tree.holds, zd]
 have fin : ∀ (i : Int) (h : Heap), i = idxB (fun y => decide (cmpF y x = 0)) l → h = HIdF x → RetR zaq 2 Q [.int .i64 i] h := by
  intro i h hi2 hh
  subst hh
  rw [← hi2] at hq
  exact RetR.keep [0, 1] rfl rfl (by show ∀ j, j < 2 → _; decide) rfl hq (by simp [resV, exp2, exp1, exp0, ren0, eqA2]) (by simp [expH, expB, exp1, exp0, ren0, HIdF]) rfl
 refine zc.loop (ι := {i : Nat // i ≤ l.length ∧ ∀ j, j < i → decide (cmpF (l.getD j Fx.nil) x = 0) = false}) (fun i => SIdF l i.1) (fun _ => HIdF x) (fun i => l.length - i.1) ⟨0, Nat.zero_le _, fun j hj => by omega⟩ 0 ?_ ?_ (by kernel_rfl)
 ·exact ⟨by simp [SIdF, fxS, za], by simp [HIdF], by kernel_rfl, Nat.le_refl _⟩
 ·rintro ⟨i, hil, hib⟩
  refine zc.run hmix JW [0, 1, 7, 8] 400 (T := .ite (decide ((↑i : Int) < l.length)) (.side ((0 : Int) ≤ i ∧ (↑i : Int) < l.length) (.ex (fun (x_1 : Fx × Fx) => eqL [AV.agg [AV.str (Fx.name (List.getD l (Int.toNat (↑i : Int)) Fx.nil)), AV.int .i64 (Fx.date (List.getD l (Int.toNat (↑i : Int)) Fx.nil)), AV.str (Fx.value (List.getD l (Int.toNat (↑i : Int)) Fx.nil))], AV.ptr 0 0, AV.ptr 1 0] [AV.agg [AV.str x_1.1.name, AV.int .i64 x_1.1.date, AV.str x_1.1.value], AV.ptr 0 0, AV.ptr 1 0] ∧ eqH [.box [AV.fn 39 [] []], .box [AV.str x.name, AV.int .i64 x.date, AV.str x.value]] [.box [AV.fn 39 [] []], .box [AV.str x_1.2.name, AV.int .i64 x_1.2.date, AV.str x_1.2.value]] ∧ 2 = 2 ∧ True) fun n => .all (fun (r : Bool) => r = decide (cmpF n.1 n.2 = 0)) fun n_1 => .ite n_1 (.leaf (.ret [.int .i64 i] [.box [.fn 39 [] []], .box [.str n.2.name, .int .i64 n.2.date, .str n.2.value]])) (.side (inR .i64 ((↑i : Int) + (1 : Int))) (.leaf (.back 0 [(0, .sl l.length 3 (fxG l)), (1, .fn 87 [] [.ptr 0 0, .ptr 1 0]), (7, .int .i64 l.length), (8, .int .i64 ((↑i : Int) + (1 : Int)))] [.box [.fn 39 [] []], .box [.str n.2.name, .int .i64 n.2.date, .str n.2.value]]))))) (.leaf (.ret [.int .i64 (-1 : Int)] [.box [.fn 39 [] []], .box [.str x.name, .int .i64 x.date, .str x.value]]))) (by kernel_rfl) ?_
  simp only [Tree.holds, zd, inR, lo, hi, Int.toNat_natCast]
  refine ⟨fun hlt => ?_, fun hge => ?_⟩
  ·have hlt : i < l.length := by have := of_decide_eq_true hlt; omega
   refine ⟨by omega, fun _ => ⟨(l.getD i Fx.nil, x), ⟨by simp, by simp, trivial, trivial⟩, ⟨_, rfl⟩, ?_⟩⟩
   rintro _ rfl
   refine ⟨fun h => ?_, fun h => ⟨by omega, fun _ => ?_⟩⟩
   ·exact fin _ _ (yz hlt h hib).symm rfl
   ·rw [if_pos trivial]
    refine ⟨⟨i + 1, hlt, fun j hj => ?_⟩, by show l.length - (i + 1) < l.length - i; omega, by simp [SIdF, fxS, za], by simp [HIdF], by kernel_rfl, Nat.le_refl _⟩
    rcases Nat.lt_or_ge j i with h1 | h1
    ·exact hib j h1
    ·have : j = i := by omega
     rw [this]; exact h
  ·have hge : i = l.length := by have := of_decide_eq_false hge; omega
   subst hge
   exact fin _ _ (v8 (p := fun y => decide (cmpF y x = 0)) hib).symm rfl
theorem zcs : ze Tryz.prog 82 zbw := by
 refine jh (fn := Tryz.f82) (c := Tryz.f82.body.getD .skip) rfl rfl rfl (fun h => by cases h) fun p hl O w0 σ0 Q hl0 hq => ?_
 obtain ⟨l, x⟩ := p
 replace hq := hq _ rfl
 simp only at hq hl
 refine zc.run hmix JW [0, 1, 7, 8] 400 (T := .leaf (.loop (Prod.fst (lps K82 0)) (Prod.snd (lps K82 0)) [(0, .sl l.length 4 (chG l)), (1, .fn 92 [] [.ptr 0 0, .ptr 1 0]), (7, .int .i64 l.length), (8, .int .i64 0)] [.box [.fn 42 [] []], .box [.str x.zb, .str x.name, .int .i64 x.date, .bool x.first]])) (by kernel_rfl) ?_
 simp only [Tree.holds, zd]
 have fin : ∀ (i : Int) (h : Heap), i = idxB (fun y => decide (cmpC y x = 0)) l → h = HIdC x → RetR zbw 2 Q [.int .i64 i] h := by
  intro i h hi2 hh
  subst hh
  rw [← hi2] at hq
  exact RetR.keep [0, 1] rfl rfl (by show ∀ j, j < 2 → _; decide) rfl hq (by simp [resV, exp2, exp1, exp0, ren0, eqA2]) (by simp [expH, expB, exp1, exp0, ren0, HIdC]) rfl
 refine zc.loop (ι := {i : Nat // i ≤ l.length ∧ ∀ j, j < i → decide (cmpC (l.getD j Ch.nil) x = 0) = false}) (fun i => SIdC l i.1) (fun _ => HIdC x) (fun i => l.length - i.1) ⟨0, Nat.zero_le _, fun j hj => by omega⟩ 0 ?_ ?_ (by kernel_rfl)
 ·exact ⟨by simp [SIdC, chS, za], by simp [HIdC], by kernel_rfl, Nat.le_refl _⟩
 ·rintro ⟨i, hil, hib⟩
  refine zc.run hmix JW [0, 1, 7, 8] 400 (T := .ite (decide ((↑i : Int) < l.length)) (.side ((0 : Int) ≤ i ∧ (↑i : Int) < l.length) (.ex (fun (x_1 : Ch × Ch) => eqL [AV.agg [AV.str (Ch.zb (List.getD l (Int.toNat (↑i : Int)) Ch.nil)), AV.str (Ch.name (List.getD l (Int.toNat (↑i : Int)) Ch.nil)), AV.int .i64 (Ch.date (List.getD l (Int.toNat (↑i : Int)) Ch.nil)), AV.bool (Ch.first (List.getD l (Int.toNat (↑i : Int)) Ch.nil))], AV.ptr 0 0, AV.ptr 1 0] [AV.agg [AV.str x_1.1.zb, AV.str x_1.1.name, AV.int .i64 x_1.1.date, AV.bool x_1.1.first], AV.ptr 0 0, AV.ptr 1 0] ∧ eqH [.box [AV.fn 42 [] []], .box [AV.str x.zb, AV.str x.name, AV.int .i64 x.date, AV.bool x.first]] [.box [AV.fn 42 [] []], .box [AV.str x_1.2.zb, AV.str x_1.2.name, AV.int .i64 x_1.2.date, AV.bool x_1.2.first]] ∧ 2 = 2 ∧ True) fun n => .all (fun (r : Bool) => r = decide (cmpC n.1 n.2 = 0)) fun n_1 => .ite n_1 (.leaf (.ret [.int .i64 i] [.box [.fn 42 [] []], .box [.str n.2.zb, .str n.2.name, .int .i64 n.2.date, .bool n.2.first]])) (.side (inR .i64 ((↑i : Int) + (1 : Int))) (.leaf (.back 0 [(0, .sl l.length 4 (chG l)), (1, .fn 92 [] [.ptr 0 0, .ptr 1 0]), (7, .int .i64 l.length), (8, .int .i64 ((↑i : Int) + (1 : Int)))] [.box [.fn 42 [] []], .box [.str n.2.zb, .str n.2.name, .int .i64 n.2.date, .bool n.2.first]]))))) (.leaf (.ret [.int .i64 (-1 : Int)] [.box [.fn 42 [] []], .box [.str x.zb, .str x.name, .int .i64 x.date, .bool x.first]]))) (by kernel_rfl) ?_
  simp only [Tree.holds, zd, inR, lo, hi, Int.toNat_natCast]
  refine ⟨fun hlt => ?_, fun hge => ?_⟩
  ·have hlt : i < l.length := by have := of_decide_eq_true hlt; omega
   refine ⟨by omega, fun _ => ⟨(l.getD i Ch.nil, x), ⟨by simp, by simp, trivial, trivial⟩, ⟨_, rfl⟩, ?_⟩⟩
   rintro _ rfl
   refine ⟨fun h => ?_, fun h => ⟨by omega, fun _ => ?_⟩⟩
   ·exact fin _ _ (yz hlt h hib).symm rfl
   ·rw [if_pos trivial]
    refine ⟨⟨i + 1, hlt, fun j hj => ?_⟩, by show l.length - (i + 1) < l.length - i; omega, by simp [SIdC, chS, za], by simp [HIdC], by kernel_rfl, Nat.le_refl _⟩
    rcases Nat.lt_or_ge j i with h1 | h1
    ·exact hib j h1
    ·have : j = i := by omega
     rw [this]; exact h
  ·have hge : i = l.length := by have := of_decide_eq_false hge; omega
   subst hge
   exact fin _ _ (v8 (p := fun y => decide (cmpC y x = 0)) hib).symm rfl
def Xm : Ctr := ctrP true (fun p : List Fx × Fx => [fxS p.1, p.2.av, .fn 39 [] []]) (fun p => p.1.length < 2 ^ 40) (fun p r => r = idxB (fun x => decide (cmpF x p.2 = 0)) p.1) (fun _ (r : Int) => (.int .i64 r, []))
def XH : Ctr := ctrP true (fun p : List Ch × Ch => [chS p.1, p.2.av, .fn 42 [] []]) (fun p => p.1.length < 2 ^ 40) (fun p r => r = idxB (fun x => decide (cmpC x p.2 = 0)) p.1) (fun _ (r : Int) => (.int .i64 r, []))
noncomputable def GI3 : Nat → Option Ctr := fun f => if f = 81 then some (zaq) else if f = 82 then some (zbw) else none
theorem zat : ∀ g c, GI3 g = some c → ze Tryz.prog g c := okIf zd3 (okIf zcs (zn))
theorem Yv : ze Tryz.prog 66 Xm := by
 refine zh (fn := Tryz.f66) (c := Tryz.f66.body.getD .skip) rfl rfl rfl fun p hp O w0 Q hq => ?_
 obtain ⟨l, ⟨a, d, v⟩⟩ := p
 replace hq := hq _ rfl
 simp only at hq hp
 refine zc.run hmix zat [] 400 (T := .ex (fun (x : List Fx × Fx) => eqL [AV.sl l.length 3 (fxG l), AV.fn 87 [] [AV.ptr 0 0, AV.ptr 1 0]] [AV.sl x.1.length 3 (fxG x.1), AV.fn 87 [] [AV.ptr 0 0, AV.ptr 1 0]] ∧ eqH [.box [AV.fn 39 [] []], .box [AV.str a, AV.int .i64 d, AV.str v]] [.box [AV.fn 39 [] []], .box [AV.str x.2.name, AV.int .i64 x.2.date, AV.str x.2.value]] ∧ 2 = 2 ∧ x.1.length < 1099511627776) fun n => .all (fun (r : Int) => r = idxB (fun (x : Fx) => decide (cmpF x n.2 = 0)) n.1) fun n_1 => .leaf (.ret [.int .i64 n_1] [.box [.str n.2.name, .int .i64 n.2.date, .str n.2.value], .box [.fn 39 [] []]])) (by kernel_rfl) ?_
 simp only [Tree.holds, zd]
 refine ⟨(l, ⟨a, d, v⟩), ⟨by simp [za], by simp, trivial, hp⟩, ⟨_, rfl⟩, ?_⟩
 rintro _ rfl
 exact RetR.scal hq rfl (by simp [resV])
theorem Y0 : ze Tryz.prog 71 XH := by
 refine zh (fn := Tryz.f71) (c := Tryz.f71.body.getD .skip) rfl rfl rfl fun p hp O w0 Q hq => ?_
 obtain ⟨l, ⟨a, v, d, b⟩⟩ := p
 replace hq := hq _ rfl
 simp only at hq hp
 refine zc.run hmix zat [] 400 (T := .ex (fun (x : List Ch × Ch) => eqL [AV.sl l.length 4 (chG l), AV.fn 92 [] [AV.ptr 0 0, AV.ptr 1 0]] [AV.sl x.1.length 4 (chG x.1), AV.fn 92 [] [AV.ptr 0 0, AV.ptr 1 0]] ∧ eqH [.box [AV.fn 42 [] []], .box [AV.str a, AV.str v, AV.int .i64 d, AV.bool b]] [.box [AV.fn 42 [] []], .box [AV.str x.2.zb, AV.str x.2.name, AV.int .i64 x.2.date, AV.bool x.2.first]] ∧ 2 = 2 ∧ x.1.length < 1099511627776) fun n => .all (fun (r : Int) => r = idxB (fun (x : Ch) => decide (cmpC x n.2 = 0)) n.1) fun n_1 => .leaf (.ret [.int .i64 n_1] [.box [.str n.2.zb, .str n.2.name, .int .i64 n.2.date, .bool n.2.first], .box [.fn 42 [] []]])) (by kernel_rfl) ?_
 simp only [Tree.holds, zd]
 refine ⟨(l, ⟨a, v, d, b⟩), ⟨by simp [za], by simp, trivial, hp⟩, ⟨_, rfl⟩, ?_⟩
 rintro _ rfl
 exact RetR.scal hq rfl (by simp [resV])
end Go.Proofs.Tryz
end

/- The library's insertion of one element, as a contract: from what its walk shows. -/
section
namespace Go.Sx
variable [Stat]
def Wd (P : Program) (g sz bytes : Nat) : Prop := ∀ (b off n c i vb voff vc : Nat) (cur vcur : Array Value) (el vel : TypeId) (w : World), i < n → n ≤ c → (n + 1) * bytes ≤ 140737488355328 → vb ≠ b →
 w.heap[b]? = some (.cells cur el (0, 0)) → w.heap[vb]? = some (.cells vcur vel (0, 0)) → off + c * sz ≤ cur.size → voff + sz ≤ vcur.size →
 (∀ (j : Nat) (v : Value), j < n * sz → cur[off + j]? = some v → v.oneCell' = true) → (∀ (j : Nat) (v : Value), j < sz → vcur[voff + j]? = some v → v.oneCell' = true) →
 Calls P g #[.slice (some ⟨b, off, none⟩) n c, .int .i64 i, .slice (some ⟨vb, voff, none⟩) 1 vc] w fun e w' => ∃ (b' o' c' : Nat) (cur' : Array Value) (el' : TypeId),
  e = .returned (.slice (some ⟨b', o', none⟩) (n + 1) c') ∧ n + 1 ≤ c' ∧ w'.heap[b']? = some (.cells cur' el' (0, 0)) ∧ o' + c' * sz ≤ cur'.size ∧
  (∀ j, j < (n + 1) * sz → cur'[o' + j]? = if j < i * sz then cur[off + j]? else if j < i * sz + sz then vcur[voff + (j - i * sz)]? else cur[off + (j - sz)]?) ∧
  (b' = b ∨ w.heap.size ≤ b') ∧ w.heap.size ≤ w'.heap.size ∧ (∀ k, k < w.heap.size → k ≠ b → w'.heap[k]? = w.heap[k]?) ∧ w'.os = w.os ∧ w'.tape = w.tape ∧ w'.output = w.output
def insG (i : Nat) (gl gv : Nat → Nat → AV) : Nat → Nat → AV := fun j o => if j < i then gl j o else if j = i then gv 0 o else gl (j - 1) o
theorem QF {a b sz o : Nat} (h : a < b) (ho : o < sz) : a * sz + o < b * sz := by
 have : (a + 1) * sz ≤ b * sz := Nat.mul_le_mul_right _ h
 rw [Nat.succ_mul] at this; omega
theorem Xh {P : Program} {g : Nat} {fn : Func} {c : Code} (hf : P.funcs[g]? = some fn) (hb : fn.body = some c) (hn : (fn.name == "runtime.NumGoroutine") = false) {sz bytes : Nat} (hsz : 0 < sz) (W : Wd P g sz bytes)
  {gl gv gt : Nat → Nat → AV} {n i : Nat} (hi : i < n) (hbig : (n + 1) * bytes ≤ 140737488355328) (hgt : eqG (n + 1) sz (insG i gl gv) gt) {ctr : Ctr} (hfr : ctr.fresh = false) (hmv : ctr.wv = true) (hpi : ctr.pins = 0) {Q : AV × Heap → Prop}
  (hq : Q (.osl 0 sz 0 (n + 1), [.arr (n + 1) sz gt, .dead])) : qq P g ctr [.osl 0 sz 0 n, .int .i64 i, .osl 1 sz 0 1] [.arr n sz gl, .arr 1 sz gv] Q := by
 intro O w σ vals hg hh hr
 simp only [RepL] at hr
 obtain ⟨v0, r0, rfl, h0, v1, r1, rfl, h1, v2, r2, rfl, h2, rfl⟩ := hr
 simp only [Rep] at h0 h1 h2
 subst h1
 obtain ⟨e0, he0, hl0, a0, cap, rfl, hnc, hr0⟩ := h0
 obtain ⟨e1, he1, hl1, a1, vc, rfl, hvc, hr1⟩ := h2
 rcases hr0 with hr0 | ⟨ad, had, rfl, cur, el, hcur, hsize⟩
 ·omega
 rcases hr1 with hr1 | ⟨vd, hvd, rfl, vcur, vel, hvcur, hvsize⟩
 ·omega
 obtain ⟨hen0, hz0 | ⟨ad', cs0, el0, had', hcs0, hs0, hc0⟩⟩ := hh.blk 0 e0 _ he0 rfl
 ·omega
 rw [had] at had'; cases had'
 rw [hcur] at hcs0; cases hcs0
 obtain ⟨hen1, hz1 | ⟨vd', cs1, el1, hvd', hcs1, hs1, hc1⟩⟩ := hh.blk 1 e1 _ he1 rfl
 ·omega
 rw [hvd] at hvd'; cases hvd'
 rw [hvcur] at hcs1; cases hcs1
 have hne : vd.block ≠ ad.block := fun h => hh.inj 0 1 e0 e1 ad vd he0 he1 had hvd (by decide) h.symm
 have hmb : Mine σ ad.block := ⟨e0, List.mem_of_getElem? he0, ad, had, rfl⟩
 have hbw : ad.block < w.heap.size := hh.lt 0 e0 ad he0 had
 simp only [Nat.zero_mul, Nat.add_zero, Nat.zero_add] at hsize hvsize ⊢
 have hn' : ¬ fn.name = "runtime.NumGoroutine" := by simpa using hn
 left
 refine ⟨by simp [callFunc, hf, hn', hb], ?_⟩
 have hvfit : vd.off + sz ≤ vcur.size := by simpa using hs1
 refine (W ad.block ad.off n cap i vd.block vd.off vc cur vcur el vel w hi hnc hbig hne hcur hvcur hsize hvfit ?_ ?_).mono ?_
 ·intro j v hj hv
  have ho : j % sz < sz := Nat.mod_lt _ hsz
  have hjn : j / sz < n := Nat.div_lt_of_lt_mul (by rw [Nat.mul_comm]; exact hj)
  obtain ⟨c, g1, g2, _⟩ := hc0 (j / sz) (j % sz) hjn ho
  have : j / sz * sz + j % sz = j := by rw [Nat.mul_comm]; exact Nat.div_add_mod j sz
  rw [this, hv] at g1
  cases g1; exact g2
 ·intro j v hj hv
  obtain ⟨c, g1, g2, _⟩ := hc1 0 j (by decide) hj
  rw [Nat.zero_mul, Nat.zero_add, hv] at g1
  cases g1; exact g2
 rintro e w' ⟨b', o', c', cur', el', rfl, hc', hcur', hsz', hel, hb', hws, hkeep, hos, htape, hout⟩
 refine ⟨_, rfl, .osl 0 sz 0 (n + 1), [.arr (n + 1) sz gt, .dead], [⟨some ⟨b', o', none⟩, n + 1⟩, ⟨none, 0⟩], hq, ?_⟩
 have hlt' : b' < w'.heap.size := (Array.getElem?_eq_some_iff.1 hcur').1
 have hmine : ∀ b, Mine [⟨some ⟨b', o', none⟩, n + 1⟩, ⟨none, 0⟩] b → b = b' := by
  rintro b ⟨e, he, ad2, h1, h2⟩
  simp only [List.mem_cons, List.not_mem_nil, or_false] at he
  rcases he with rfl | rfl
  ·cases h1; exact h2.symm
  ·cases h1
 have hown : ∀ b, Own O [⟨some ⟨b', o', none⟩, n + 1⟩, ⟨none, 0⟩] b → O b ∨ b = b' := fun b hb => hb.imp id fun h => hmine b h
 have hx : Ext (Own O σ) w (fun b => Own O [⟨some ⟨b', o', none⟩, n + 1⟩, ⟨none, 0⟩] b ∨ (ctr.fresh = true ∧ b < w.heap.size)) w' := by
  refine ⟨hos, htape, hout, hws, fun b hb hno => hkeep b hb fun h => hno (.inr (h ▸ hmb)), fun b hb => ?_⟩
  rcases hb with hb | ⟨hb, _⟩
  ·rcases hown b hb with hb | rfl
   ·exact .inl (.inl hb)
   ·rcases hb' with rfl | hb'
    ·exact .inl (.inr hmb)
    ·exact .inr hb'
  ·rw [hfr] at hb; cases hb
 refine ⟨?_, ⟨rfl, ?_, ?_, ?_⟩, ⟨fun b hb => Nat.lt_of_lt_of_le (hg.old b hb) hws, ?_, hg.stat.ext ⟨hx.os, hx.tape, hx.output, hx.size, hx.keep, fun b hb => hx.grow b (.inl hb)⟩⟩, Nat.le_refl _, ?_, ⟨hos, htape, hout, hws, fun b hb hno => hkeep b hb fun h => hno (h ▸ hmb), fun b hb => ?_⟩⟩
 ·simp only [Rep]
  exact ⟨⟨some ⟨b', o', none⟩, n + 1⟩, rfl, by simp, some ⟨b', o', none⟩, c', rfl, hc', .inr ⟨⟨b', o', none⟩, rfl, by simp, cur', el', hcur', by simpa using hsz'⟩⟩
 ·intro i j e f a b he hf ha hb hij
  match i, j with
  | 0, 0 => exact absurd rfl hij
  | 0, 1 => simp at hf; subst hf; cases hb
  | 1, _ => simp at he; subst he; cases ha
  | 0, j + 2 => simp at hf
  | i + 2, _ => simp at he
 ·intro i e a he ha
  match i with
  | 0 => simp at he; subst he; cases ha; exact hlt'
  | 1 => simp at he; subst he; cases ha
  | i + 2 => simp at he
 ·intro k e b he hb
  match k with
  | 0 =>
   simp at he hb; subst he; subst hb
   refine ⟨rfl, .inr ⟨_, cur', el', rfl, hcur', ?_, fun j o hj ho => ?_⟩⟩
   ·have : (n + 1) * sz ≤ c' * sz := Nat.mul_le_mul_right _ hc'
    simp only; omega
   ·have hlt := QF hj ho
    have he := hel (j * sz + o) hlt
    have hg2 := hgt j o hj ho
    simp only
    rw [he, ← hg2]
    simp only [insG]
    by_cases h1 : j < i
    ·rw [if_pos (QF h1 ho), if_pos h1]
     obtain ⟨c, g1, g2, g3⟩ := hc0 j o (by omega) ho
     exact ⟨c, g1, g2, zi hx _ _ g3⟩
    ·have h2 : ¬ j * sz + o < i * sz := by
      have : i * sz ≤ j * sz := Nat.mul_le_mul_right _ (by omega)
      omega
     rw [if_neg h2, if_neg h1]
     by_cases h3 : j = i
     ·subst h3
      rw [if_pos (by omega), if_pos rfl]
      obtain ⟨c, g1, g2, g3⟩ := hc1 0 o (by decide) ho
      refine ⟨c, ?_, g2, zi hx _ _ g3⟩
      rw [← g1]; congr 1; omega
     ·have h4 : (i + 1) * sz ≤ j * sz := Nat.mul_le_mul_right _ (by omega)
      rw [Nat.succ_mul] at h4
      rw [if_neg (by omega), if_neg h3]
      obtain ⟨c, g1, g2, g3⟩ := hc0 (j - 1) o (by omega) ho
      refine ⟨c, ?_, g2, zi hx _ _ g3⟩
      rw [← g1]; congr 1
      have : (j - 1) * sz + sz = j * sz := by rw [← Nat.succ_mul]; congr 1; omega
      omega
  | 1 => simp at hb; subst hb; trivial
  | k + 2 => simp at he
 ·intro k e ad2 he had2
  match k with
  | 0 =>
   simp at he; subst he; cases had2
   simp only
   rcases hb' with rfl | hb'
   ·exact hg.dis 0 e0 ad he0 had
   ·intro hO; have := hg.old _ hO; omega
  | 1 => simp at he; subst he; cases had2
  | k + 2 => simp at he
 ·rw [hmv, hpi]
  intro k e he hk
  simp only [if_true, List.drop_zero, List.mem_range] at hk
  have hlt := (List.getElem?_eq_some_iff.1 he).1
  have hl := hh.len
  simp at hl hk
  omega
 ·rcases hmine b hb with rfl
  rcases hb' with rfl | hb'
  ·exact .inl hmb
  ·exact .inr hb'
end Go.Sx
end

/- What is known: the library's insertion, by its walk. -/
section
set_option maxRecDepth 100000
open Go Go.Sx Go.Proofs Go.Nov
namespace Go.Proofs.Tryz
attribute [local simp] eqKV eqA eqA0 eqH eqB eqL eqL0
theorem qR {α : Type} {l m : List α} {a : Nat} (h : a + m.length ≤ l.length) (k : Nat) : (l.take a ++ m ++ l.drop (a + m.length))[k]? = if k < a then l[k]? else if k < a + m.length then m[k - a]? else l[k]? := by
 have hl : (l.take a).length = a := by rw [List.length_take]; omega
 rw [List.getElem?_append, List.getElem?_append, hl]
 simp only [List.length_append, hl]
 by_cases h1 : k < a
 ·rw [if_pos (by omega), if_pos h1, if_pos h1, List.getElem?_take, if_pos h1]
 ·rw [if_neg h1, if_neg h1]
  by_cases h2 : k < a + m.length
  ·rw [if_pos h2, if_pos h2]
  ·rw [if_neg h2, if_neg h2, List.getElem?_drop]; congr 1; omega
theorem qD {l : List Value} {o k j : Nat} : ((l.drop o).take k)[j]? = if j < k then l[o + j]? else none := by
 rw [List.getElem?_take]
 split
 ·rw [List.getElem?_drop]
 ·rfl
theorem Yn : Wd Tryz.prog 67 3 40 := by
 intro b off n c i vb voff vc cur vcur el vel w hi hnc hbig hne hB hV hfit hvfit h1 h2
 have hcl : ((cur.toList.drop off).take (n * 3)).length = n * 3 := by
  have : n * 3 ≤ c * 3 := Nat.mul_le_mul_right _ hnc
  simp; omega
 have hvl : ((vcur.toList.drop voff).take 3).length = 3 := by simp; omega
 have hcs : ∀ j v, ((cur.toList.drop off).take (n * 3))[j]? = some v → w.cell? ⟨b, off + j, none⟩ = some v := fun j v hj => by
  rw [qD] at hj
  split at hj
  ·simp only [World.cell?, hB]; simpa using hj
  ·cases hj
 have hvs : ∀ j v, ((vcur.toList.drop voff).take 3)[j]? = some v → w.cell? ⟨vb, voff + j, none⟩ = some v := fun j v hj => by
  rw [qD] at hj
  split at hj
  ·simp only [World.cell?, hV]; simpa using hj
  ·cases hj
 have h1c : ∀ v ∈ (cur.toList.drop off).take (n * 3), v.oneCell' = true := fun v hv => by
  obtain ⟨j, hj⟩ := List.getElem?_of_mem hv
  rw [qD] at hj
  split at hj
  ·rename_i hlt; exact h1 j v hlt (by simpa using hj)
  ·cases hj
 have h1v : ∀ v ∈ (vcur.toList.drop voff).take 3, v.oneCell' = true := fun v hv => by
  obtain ⟨j, hj⟩ := List.getElem?_of_mem hv
  rw [qD] at hj
  split at hj
  ·rename_i hlt; exact h2 j v hlt (by simpa using hj)
  ·cases hj
 have hcg : ∀ j, j < n * 3 → ((cur.toList.drop off).take (n * 3))[j]? = cur[off + j]? := fun j hj => by rw [qD, if_pos hj]; simp
 have hvg : ∀ j, j < 3 → ((vcur.toList.drop voff).take 3)[j]? = vcur[voff + j]? := fun j hj => by rw [qD, if_pos hj]; simp
 generalize (cur.toList.drop off).take (n * 3) = cs at hcl hcs h1c hcg
 generalize (vcur.toList.drop voff).take 3 = vs at hvl hvs h1v hvg
 have hin3 : i * 3 + 3 ≤ n * 3 := by have := Nat.mul_le_mul_right 3 (show i + 1 ≤ n from hi); omega
 have hdl : (cs.drop (i * 3)).length = n * 3 - i * 3 := by rw [List.length_drop, hcl]
 have hbw : b < w.heap.size := (Array.getElem?_eq_some_iff.1 hB).1
 by_cases hroom : n + 1 ≤ c
 ·have hcn : (n + 1) * 3 ≤ c * 3 := Nat.mul_le_mul_right _ hroom
  obtain ⟨X1, hX1⟩ : ∃ X1, X1 = cur.toList.take (off + (i + 1) * 3) ++ cs.drop (i * 3) ++ cur.toList.drop (off + (i + 1) * 3 + (cs.drop (i * 3)).length) := ⟨_, rfl⟩
  obtain ⟨X2, hX2⟩ : ∃ X2, X2 = X1.take (off + i * 3) ++ vs ++ X1.drop (off + i * 3 + vs.length) := ⟨_, rfl⟩
  have hX1l : X1.length = cur.size := by rw [hX1]; simp only [List.length_append, List.length_take, List.length_drop, Array.length_toList, hdl, hcl]; omega
  have hX2l : X2.length = cur.size := by rw [hX2]; simp only [List.length_append, List.length_take, List.length_drop, hX1l, hvl]; omega
  have g1 : ∀ k : Nat, X1[k]? = (if k < off + (i + 1) * 3 then cur.toList[k]? else if k < off + (i + 1) * 3 + (cs.drop (i * 3)).length then (cs.drop (i * 3))[k - (off + (i + 1) * 3)]? else cur.toList[k]?) := fun k => by rw [hX1]; exact qR (by simp only [Array.length_toList, hdl]; omega) k
  have g2 : ∀ k : Nat, X2[k]? = (if k < off + i * 3 then X1[k]? else if k < off + i * 3 + (vs).length then (vs)[k - (off + i * 3)]? else X1[k]?) := fun k => by rw [hX2]; exact qR (by rw [hX1l, hvl]; omega) k
  refine (VV b off n c i vb voff vc cur vcur el vel cs vs w hi hroom (by omega) hne hB hV hfit hcl hvl hcs hvs h1c h1v X1 X2 hX1 hX2).mono ?_
  rintro e w' ⟨he, hh, hos, htape, hout⟩
  refine ⟨b, off, c, X2.toArray, el, he, hroom, ?_, by simp only [List.size_toArray, hX2l]; omega, ?_, .inl rfl, ?_, ?_, hos, htape, hout⟩
  ·rw [hh]; exact setRow_heap _ b _ _ el _ (setRow_heap w b cur _ el _ hB)
  ·intro j hj
   simp only [List.getElem?_toArray, g2, g1, hvl, hdl]
   by_cases k1 : j < i * 3
   ·rw [if_pos (by omega), if_pos (by omega), if_pos k1]; simp
   ·rw [if_neg (by omega), if_neg k1]
    by_cases k2 : j < i * 3 + 3
    ·rw [if_pos (by omega), if_pos k2, show off + j - (off + i * 3) = j - i * 3 by omega, hvg _ (by omega)]
    ·rw [if_neg (by omega), if_neg k2, if_neg (by omega), if_pos (by omega), List.getElem?_drop, hcg _ (by omega)]; congr 1; omega
  ·rw [hh]; simp
  ·intro k hk hkb
   rw [hh, setRow_other _ b k _ hkb, setRow_other _ b k _ hkb]
 ·have hc1 : c < n + 1 := by omega
  obtain ⟨G, hG⟩ : ∃ G, G = grownCap w (n + 1) c 56 := ⟨_, rfl⟩
  have hGn : n + 1 ≤ G := by rw [hG]; exact grownCap_ge w _ _ _
  obtain ⟨zs, hz⟩ : ∃ zs : List Value, Builtin.zeroCells (Value.agg #[.string ⟨#[]⟩, .int .i64 0, .string ⟨#[]⟩]).cells (n + 1 - i) = zs.toArray := ⟨_, (Array.toArray_toList).symm⟩
  obtain ⟨rest, hrest⟩ : ∃ zs : List Value, Builtin.zeroCells (Value.agg #[.string ⟨#[]⟩, .int .i64 0, .string ⟨#[]⟩]).cells (G - (n + 1)) = zs.toArray := ⟨_, (Array.toArray_toList).symm⟩
  have hzl : zs.length = (n + 1 - i) * 3 := by
   have := congrArg Array.size hz
   simpa [Builtin.zeroCells, Value.cells] using this.symm
  have hrl : rest.length = (G - (n + 1)) * 3 := by
   have := congrArg Array.size hrest
   simpa [Builtin.zeroCells, Value.cells] using this.symm
  obtain ⟨ROW, hROW⟩ : ∃ ROW, ROW = cs.take (i * 3) ++ zs ++ rest := ⟨_, rfl⟩
  obtain ⟨X1, hX1⟩ : ∃ X1, X1 = ROW.take (i * 3) ++ vs ++ ROW.drop (i * 3 + vs.length) := ⟨_, rfl⟩
  obtain ⟨X2, hX2⟩ : ∃ X2, X2 = X1.take ((i + 1) * 3) ++ cs.drop (i * 3) ++ X1.drop ((i + 1) * 3 + (cs.drop (i * 3)).length) := ⟨_, rfl⟩
  have hsum : (n + 1) * 3 + (G - (n + 1)) * 3 = G * 3 := by rw [← Nat.add_mul]; congr 1; omega
  have hsum2 : i * 3 + (n + 1 - i) * 3 = (n + 1) * 3 := by rw [← Nat.add_mul]; congr 1; omega
  have hROWl : ROW.length = G * 3 := by
   rw [hROW]; simp only [List.length_append, List.length_take, hcl, hzl, hrl]; omega
  have hX1l : X1.length = G * 3 := by rw [hX1]; simp only [List.length_append, List.length_take, List.length_drop, hROWl, hvl]; omega
  have hX2l : X2.length = G * 3 := by rw [hX2]; simp only [List.length_append, List.length_take, List.length_drop, hX1l, hdl, hcl]; omega
  have g1 : ∀ k : Nat, X1[k]? = (if k < i * 3 then ROW[k]? else if k < i * 3 + (vs).length then (vs)[k - (i * 3)]? else ROW[k]?) := fun k => by rw [hX1]; exact qR (by rw [hROWl, hvl]; omega) k
  have g2 : ∀ k : Nat, X2[k]? = (if k < (i + 1) * 3 then X1[k]? else if k < (i + 1) * 3 + (cs.drop (i * 3)).length then (cs.drop (i * 3))[k - ((i + 1) * 3)]? else X1[k]?) := fun k => by rw [hX2]; exact qR (by rw [hX1l, hdl]; omega) k
  have g0 : ∀ k, k < i * 3 → ROW[k]? = cs[k]? := fun k hk => by
   rw [hROW, List.append_assoc, List.getElem?_append_left (by rw [List.length_take]; omega), List.getElem?_take, if_pos hk]
  refine (Y9 b off n c i vb voff vc cur vcur el vel cs vs w hi hnc hc1 hbig hB hV hcl hvl hcs hvs h1c h1v zs hz G hG rest hrest ROW X1 X2 hROW hX1 hX2).mono ?_
  rintro e w' ⟨he, hh, hos, htape, hout⟩
  refine ⟨w.heap.size, 0, G, X2.toArray, 56, he, hGn, ?_, by simp only [List.size_toArray, hX2l]; omega, ?_, .inr (Nat.le_refl _), ?_, ?_, hos, htape, hout⟩
  ·rw [hh]
   exact setRow_heap _ w.heap.size _ _ _ _ (setRow_heap _ w.heap.size _ _ _ _ (show ((w.heap.push _))[w.heap.size]? = some (.cells ROW.toArray 56 (0, 0)) from Array.getElem?_push_size))
  ·intro j hj
   simp only [List.getElem?_toArray, Nat.zero_add, g2, g1, hvl, hdl]
   by_cases k1 : j < i * 3
   ·rw [if_pos (by omega), if_pos k1, if_pos k1, g0 j k1, hcg j (by omega)]
   ·simp only [if_neg k1]
    by_cases k2 : j < i * 3 + 3
    ·rw [if_pos (by omega)]
     simp only [if_pos k2]
     exact hvg _ (by omega)
    ·simp only [if_neg k2]
     rw [if_neg (by omega), if_pos (by omega), List.getElem?_drop, hcg _ (by omega)]; congr 1; omega
  ·rw [hh, setRow_size, setRow_size]
   show _ ≤ (w.heap.push _).size
   rw [Array.size_push]; omega
  ·intro k hk hkb
   rw [hh, setRow_other _ _ k _ (by omega), setRow_other _ _ k _ (by omega)]
   show (w.heap.push _)[k]? = _
   rw [Array.getElem?_push, if_neg (by omega)]
theorem YF : Wd Tryz.prog 72 4 48 := by
 intro b off n c i vb voff vc cur vcur el vel w hi hnc hbig hne hB hV hfit hvfit h1 h2
 have hcl : ((cur.toList.drop off).take (n * 4)).length = n * 4 := by
  have : n * 4 ≤ c * 4 := Nat.mul_le_mul_right _ hnc
  simp; omega
 have hvl : ((vcur.toList.drop voff).take 4).length = 4 := by simp; omega
 have hcs : ∀ j v, ((cur.toList.drop off).take (n * 4))[j]? = some v → w.cell? ⟨b, off + j, none⟩ = some v := fun j v hj => by
  rw [qD] at hj
  split at hj
  ·simp only [World.cell?, hB]; simpa using hj
  ·cases hj
 have hvs : ∀ j v, ((vcur.toList.drop voff).take 4)[j]? = some v → w.cell? ⟨vb, voff + j, none⟩ = some v := fun j v hj => by
  rw [qD] at hj
  split at hj
  ·simp only [World.cell?, hV]; simpa using hj
  ·cases hj
 have h1c : ∀ v ∈ (cur.toList.drop off).take (n * 4), v.oneCell' = true := fun v hv => by
  obtain ⟨j, hj⟩ := List.getElem?_of_mem hv
  rw [qD] at hj
  split at hj
  ·rename_i hlt; exact h1 j v hlt (by simpa using hj)
  ·cases hj
 have h1v : ∀ v ∈ (vcur.toList.drop voff).take 4, v.oneCell' = true := fun v hv => by
  obtain ⟨j, hj⟩ := List.getElem?_of_mem hv
  rw [qD] at hj
  split at hj
  ·rename_i hlt; exact h2 j v hlt (by simpa using hj)
  ·cases hj
 have hcg : ∀ j, j < n * 4 → ((cur.toList.drop off).take (n * 4))[j]? = cur[off + j]? := fun j hj => by rw [qD, if_pos hj]; simp
 have hvg : ∀ j, j < 4 → ((vcur.toList.drop voff).take 4)[j]? = vcur[voff + j]? := fun j hj => by rw [qD, if_pos hj]; simp
 generalize (cur.toList.drop off).take (n * 4) = cs at hcl hcs h1c hcg
 generalize (vcur.toList.drop voff).take 4 = vs at hvl hvs h1v hvg
 have hin3 : i * 4 + 4 ≤ n * 4 := by have := Nat.mul_le_mul_right 4 (show i + 1 ≤ n from hi); omega
 have hdl : (cs.drop (i * 4)).length = n * 4 - i * 4 := by rw [List.length_drop, hcl]
 have hbw : b < w.heap.size := (Array.getElem?_eq_some_iff.1 hB).1
 by_cases hroom : n + 1 ≤ c
 ·have hcn : (n + 1) * 4 ≤ c * 4 := Nat.mul_le_mul_right _ hroom
  obtain ⟨X1, hX1⟩ : ∃ X1, X1 = cur.toList.take (off + (i + 1) * 4) ++ cs.drop (i * 4) ++ cur.toList.drop (off + (i + 1) * 4 + (cs.drop (i * 4)).length) := ⟨_, rfl⟩
  obtain ⟨X2, hX2⟩ : ∃ X2, X2 = X1.take (off + i * 4) ++ vs ++ X1.drop (off + i * 4 + vs.length) := ⟨_, rfl⟩
  have hX1l : X1.length = cur.size := by rw [hX1]; simp only [List.length_append, List.length_take, List.length_drop, Array.length_toList, hdl, hcl]; omega
  have hX2l : X2.length = cur.size := by rw [hX2]; simp only [List.length_append, List.length_take, List.length_drop, hX1l, hvl]; omega
  have g1 : ∀ k : Nat, X1[k]? = (if k < off + (i + 1) * 4 then cur.toList[k]? else if k < off + (i + 1) * 4 + (cs.drop (i * 4)).length then (cs.drop (i * 4))[k - (off + (i + 1) * 4)]? else cur.toList[k]?) := fun k => by rw [hX1]; exact qR (by simp only [Array.length_toList, hdl]; omega) k
  have g2 : ∀ k : Nat, X2[k]? = (if k < off + i * 4 then X1[k]? else if k < off + i * 4 + (vs).length then (vs)[k - (off + i * 4)]? else X1[k]?) := fun k => by rw [hX2]; exact qR (by rw [hX1l, hvl]; omega) k
  refine (KE b off n c i vb voff vc cur vcur el vel cs vs w hi hroom (by omega) hne hB hV hfit hcl hvl hcs hvs h1c h1v X1 X2 hX1 hX2).mono ?_
  rintro e w' ⟨he, hh, hos, htape, hout⟩
  refine ⟨b, off, c, X2.toArray, el, he, hroom, ?_, by simp only [List.size_toArray, hX2l]; omega, ?_, .inl rfl, ?_, ?_, hos, htape, hout⟩
  ·rw [hh]; exact setRow_heap _ b _ _ el _ (setRow_heap w b cur _ el _ hB)
  ·intro j hj
   simp only [List.getElem?_toArray, g2, g1, hvl, hdl]
   by_cases k1 : j < i * 4
   ·rw [if_pos (by omega), if_pos (by omega), if_pos k1]; simp
   ·rw [if_neg (by omega), if_neg k1]
    by_cases k2 : j < i * 4 + 4
    ·rw [if_pos (by omega), if_pos k2, show off + j - (off + i * 4) = j - i * 4 by omega, hvg _ (by omega)]
    ·rw [if_neg (by omega), if_neg k2, if_neg (by omega), if_pos (by omega), List.getElem?_drop, hcg _ (by omega)]; congr 1; omega
  ·rw [hh]; simp
  ·intro k hk hkb
   rw [hh, setRow_other _ b k _ hkb, setRow_other _ b k _ hkb]
 ·have hc1 : c < n + 1 := by omega
  obtain ⟨G, hG⟩ : ∃ G, G = grownCap w (n + 1) c 58 := ⟨_, rfl⟩
  have hGn : n + 1 ≤ G := by rw [hG]; exact grownCap_ge w _ _ _
  obtain ⟨zs, hz⟩ : ∃ zs : List Value, Builtin.zeroCells (Value.agg #[.string ⟨#[]⟩, .string ⟨#[]⟩, .int .i64 0, .bool false]).cells (n + 1 - i) = zs.toArray := ⟨_, (Array.toArray_toList).symm⟩
  obtain ⟨rest, hrest⟩ : ∃ zs : List Value, Builtin.zeroCells (Value.agg #[.string ⟨#[]⟩, .string ⟨#[]⟩, .int .i64 0, .bool false]).cells (G - (n + 1)) = zs.toArray := ⟨_, (Array.toArray_toList).symm⟩
  have hzl : zs.length = (n + 1 - i) * 4 := by
   have := congrArg Array.size hz
   simpa [Builtin.zeroCells, Value.cells] using this.symm
  have hrl : rest.length = (G - (n + 1)) * 4 := by
   have := congrArg Array.size hrest
   simpa [Builtin.zeroCells, Value.cells] using this.symm
  obtain ⟨ROW, hROW⟩ : ∃ ROW, ROW = cs.take (i * 4) ++ zs ++ rest := ⟨_, rfl⟩
  obtain ⟨X1, hX1⟩ : ∃ X1, X1 = ROW.take (i * 4) ++ vs ++ ROW.drop (i * 4 + vs.length) := ⟨_, rfl⟩
  obtain ⟨X2, hX2⟩ : ∃ X2, X2 = X1.take ((i + 1) * 4) ++ cs.drop (i * 4) ++ X1.drop ((i + 1) * 4 + (cs.drop (i * 4)).length) := ⟨_, rfl⟩
  have hsum : (n + 1) * 4 + (G - (n + 1)) * 4 = G * 4 := by rw [← Nat.add_mul]; congr 1; omega
  have hsum2 : i * 4 + (n + 1 - i) * 4 = (n + 1) * 4 := by rw [← Nat.add_mul]; congr 1; omega
  have hROWl : ROW.length = G * 4 := by
   rw [hROW]; simp only [List.length_append, List.length_take, hcl, hzl, hrl]; omega
  have hX1l : X1.length = G * 4 := by rw [hX1]; simp only [List.length_append, List.length_take, List.length_drop, hROWl, hvl]; omega
  have hX2l : X2.length = G * 4 := by rw [hX2]; simp only [List.length_append, List.length_take, List.length_drop, hX1l, hdl, hcl]; omega
  have g1 : ∀ k : Nat, X1[k]? = (if k < i * 4 then ROW[k]? else if k < i * 4 + (vs).length then (vs)[k - (i * 4)]? else ROW[k]?) := fun k => by rw [hX1]; exact qR (by rw [hROWl, hvl]; omega) k
  have g2 : ∀ k : Nat, X2[k]? = (if k < (i + 1) * 4 then X1[k]? else if k < (i + 1) * 4 + (cs.drop (i * 4)).length then (cs.drop (i * 4))[k - ((i + 1) * 4)]? else X1[k]?) := fun k => by rw [hX2]; exact qR (by rw [hX1l, hdl]; omega) k
  have g0 : ∀ k, k < i * 4 → ROW[k]? = cs[k]? := fun k hk => by
   rw [hROW, List.append_assoc, List.getElem?_append_left (by rw [List.length_take]; omega), List.getElem?_take, if_pos hk]
  refine (YH b off n c i vb voff vc cur vcur el vel cs vs w hi hnc hc1 hbig hB hV hcl hvl hcs hvs h1c h1v zs hz G hG rest hrest ROW X1 X2 hROW hX1 hX2).mono ?_
  rintro e w' ⟨he, hh, hos, htape, hout⟩
  refine ⟨w.heap.size, 0, G, X2.toArray, 58, he, hGn, ?_, by simp only [List.size_toArray, hX2l]; omega, ?_, .inr (Nat.le_refl _), ?_, ?_, hos, htape, hout⟩
  ·rw [hh]
   exact setRow_heap _ w.heap.size _ _ _ _ (setRow_heap _ w.heap.size _ _ _ _ (show ((w.heap.push _))[w.heap.size]? = some (.cells ROW.toArray 58 (0, 0)) from Array.getElem?_push_size))
  ·intro j hj
   simp only [List.getElem?_toArray, Nat.zero_add, g2, g1, hvl, hdl]
   by_cases k1 : j < i * 4
   ·rw [if_pos (by omega), if_pos k1, if_pos k1, g0 j k1, hcg j (by omega)]
   ·simp only [if_neg k1]
    by_cases k2 : j < i * 4 + 4
    ·rw [if_pos (by omega)]
     simp only [if_pos k2]
     exact hvg _ (by omega)
    ·simp only [if_neg k2]
     rw [if_neg (by omega), if_pos (by omega), List.getElem?_drop, hcg _ (by omega)]; congr 1; omega
  ·rw [hh, setRow_size, setRow_size]
   show _ ≤ (w.heap.push _).size
   rw [Array.size_push]; omega
  ·intro k hk hkb
   rw [hh, setRow_other _ _ k _ (by omega), setRow_other _ _ k _ (by omega)]
   show (w.heap.push _)[k]? = _
   rw [Array.getElem?_push, if_neg (by omega)]
theorem zd9 {l : List Fx} {x : Fx} {i : Nat} (hi : i ≤ l.length) {gl gv : Nat → Nat → AV} (hl : eqG l.length 3 gl (fxG l)) (hv : eqG 1 3 gv (fxG [x])) : eqG (l.length + 1) 3 (insG i gl gv) (fxG (l.take i ++ x :: l.drop i)) := by
 intro j o hj ho
 have hlt : (l.take i).length = i := by rw [List.length_take]; omega
 simp only [insG]
 have e : fxG (l.take i ++ x :: l.drop i) j o = ((l.take i ++ x :: l.drop i).getD j Fx.nil).cell o := rfl
 rw [e]
 simp only [List.getD, List.getElem?_append, hlt]
 by_cases h1 : j < i
 ·rw [if_pos h1, if_pos h1, hl j o (by omega) ho, List.getElem?_take, if_pos h1]; rfl
 ·rw [if_neg h1, if_neg h1]
  by_cases h2 : j = i
  ·subst h2
   rw [if_pos rfl, hv 0 o (by decide) ho, Nat.sub_self]; rfl
  ·rw [if_neg h2, hl (j - 1) o (by omega) ho]
   obtain ⟨k, hk⟩ := Nat.exists_eq_succ_of_ne_zero (show j - i ≠ 0 by omega)
   rw [hk, List.getElem?_cons_succ, List.getElem?_drop, show i + k = j - 1 by omega]; rfl
theorem zd4 {l : List Ch} {x : Ch} {i : Nat} (hi : i ≤ l.length) {gl gv : Nat → Nat → AV} (hl : eqG l.length 4 gl (chG l)) (hv : eqG 1 4 gv (chG [x])) : eqG (l.length + 1) 4 (insG i gl gv) (chG (l.take i ++ x :: l.drop i)) := by
 intro j o hj ho
 have hlt : (l.take i).length = i := by rw [List.length_take]; omega
 simp only [insG]
 have e : chG (l.take i ++ x :: l.drop i) j o = ((l.take i ++ x :: l.drop i).getD j Ch.nil).cell o := rfl
 rw [e]
 simp only [List.getD, List.getElem?_append, hlt]
 by_cases h1 : j < i
 ·rw [if_pos h1, if_pos h1, hl j o (by omega) ho, List.getElem?_take, if_pos h1]; rfl
 ·rw [if_neg h1, if_neg h1]
  by_cases h2 : j = i
  ·subst h2
   rw [if_pos rfl, hv 0 o (by decide) ho, Nat.sub_self]; rfl
  ·rw [if_neg h2, hl (j - 1) o (by omega) ho]
   obtain ⟨k, hk⟩ := Nat.exists_eq_succ_of_ne_zero (show j - i ≠ 0 by omega)
   rw [hk, List.getElem?_cons_succ, List.getElem?_drop, show i + k = j - 1 by omega]; rfl
def zeb : Ctr := ctrT false true (fun p : List Fx × Fx × Nat => [.osl 0 3 0 p.1.length, .int .i64 (p.2.2 : Int), .osl 1 3 0 1]) (fun p => [.arr p.1.length 3 (fxG p.1), .arr 1 3 (fxG [p.2.1])]) (fun p => p.2.2 ≤ p.1.length ∧ p.1.length < 2 ^ 40) (fun _ (_ : Unit) => True) (fun p (_ : Unit) => (.osl 0 3 0 (p.1.length + 1), [.arr (p.1.length + 1) 3 (fxG (p.1.take p.2.2 ++ p.2.1 :: p.1.drop p.2.2)), .dead]))
def zet : Ctr := ctrT false true (fun p : List Ch × Ch × Nat => [.osl 0 4 0 p.1.length, .int .i64 (p.2.2 : Int), .osl 1 4 0 1]) (fun p => [.arr p.1.length 4 (chG p.1), .arr 1 4 (chG [p.2.1])]) (fun p => p.2.2 ≤ p.1.length ∧ p.1.length < 2 ^ 40) (fun _ (_ : Unit) => True) (fun p (_ : Unit) => (.osl 0 4 0 (p.1.length + 1), [.arr (p.1.length + 1) 4 (chG (p.1.take p.2.2 ++ p.2.1 :: p.1.drop p.2.2)), .dead]))
def zfg : Ctr := ctrT false true (fun p : List Fx × Fx × Nat => [.osl 0 3 0 p.1.length, .int .i64 (p.2.2 : Int), .osl 1 3 0 1]) (fun p => [.arr p.1.length 3 (fxG p.1), .arr 1 3 (fxG [p.2.1])]) (fun p => p.2.2 = p.1.length ∧ p.1.length < 2 ^ 40) (fun _ (_ : Unit) => True) (fun p (_ : Unit) => (.osl 0 3 0 (p.1.length + 1), [.arr (p.1.length + 1) 3 (fxG (p.1.take p.2.2 ++ p.2.1 :: p.1.drop p.2.2)), .dead]))
def zf2 : Ctr := ctrT false true (fun p : List Ch × Ch × Nat => [.osl 0 4 0 p.1.length, .int .i64 (p.2.2 : Int), .osl 1 4 0 1]) (fun p => [.arr p.1.length 4 (chG p.1), .arr 1 4 (chG [p.2.1])]) (fun p => p.2.2 = p.1.length ∧ p.1.length < 2 ^ 40) (fun _ (_ : Unit) => True) (fun p (_ : Unit) => (.osl 0 4 0 (p.1.length + 1), [.arr (p.1.length + 1) 4 (chG (p.1.take p.2.2 ++ p.2.1 :: p.1.drop p.2.2)), .dead]))
theorem U1 : ze Tryz.prog 67 zfg := by
 refine jh (fn := Tryz.f67) (c := Tryz.f67.body.getD .skip) rfl rfl rfl (fun h => by cases h) fun p hp O w0 σ0 Q hl0 hq => ?_
 obtain ⟨l, x, i⟩ := p
 obtain ⟨h1, h2⟩ := hp
 replace hq := hq () trivial
 simp only at hq h1 h2
 refine zc.run hmix zr [] 400 (T := .side ((0 : Int) ≤ i ∧ (↑i : Int) ≤ l.length) (.ite false (.leaf (.ret [.osl 0 3 0 l.length] [.arr l.length 3 (fxG l), .arr 1 3 (fxG [x])])) (.ite (decide ((↑i : Int) = l.length)) (.side (0 = 0 ∧ l.length ≤ l.length ∧ (l.length + 1) * 40 ≤ 140737488355328) (.leaf (.ret [.osl 0 3 0 (l.length + 1)] [.arr (l.length + 1) 3 (appG l.length (fxG l) (zg (fxG [x]) 0)), .arr 1 3 (fxG [x])]))) (.side (inR .i64 ((↑l.length : Int) + (1 : Int))) .fail)))) (by kernel_rfl) ?_
 simp only [Tree.holds, zd]
 refine ⟨by omega, fun _ => ⟨fun h => by simp at h, fun _ => ⟨fun h => ⟨⟨trivial, Nat.le_refl _, by omega⟩, fun _ => ?_⟩, fun h => ?_⟩⟩⟩
 ·refine RetR.keep [0, 1] rfl rfl (by show ∀ j, j < 2 → _; decide) rfl hq (by simp [resV, exp2, exp1, exp0, zq, eqA2]) ?_ rfl
  refine ⟨⟨rfl, rfl, ?_⟩, trivial, trivial⟩
  have e : l.take i ++ x :: l.drop i = l ++ [x] := by rw [h1, List.take_length, List.drop_length]
  rw [e]
  intro j o hj ho
  simp only [appG, fxG, xk, zg, Nat.zero_add]
  split
  ·rfl
  ·have : j = l.length := by omega
   subst this
   rw [if_pos rfl, Nat.sub_self]; rfl
 ·exact absurd h1 (by have := of_decide_eq_false h; omega)
theorem U2 : ze Tryz.prog 72 zf2 := by
 refine jh (fn := Tryz.f72) (c := Tryz.f72.body.getD .skip) rfl rfl rfl (fun h => by cases h) fun p hp O w0 σ0 Q hl0 hq => ?_
 obtain ⟨l, x, i⟩ := p
 obtain ⟨h1, h2⟩ := hp
 replace hq := hq () trivial
 simp only at hq h1 h2
 refine zc.run hmix zr [] 400 (T := .side ((0 : Int) ≤ i ∧ (↑i : Int) ≤ l.length) (.ite false (.leaf (.ret [.osl 0 4 0 l.length] [.arr l.length 4 (chG l), .arr 1 4 (chG [x])])) (.ite (decide ((↑i : Int) = l.length)) (.side (0 = 0 ∧ l.length ≤ l.length ∧ (l.length + 1) * 48 ≤ 140737488355328) (.leaf (.ret [.osl 0 4 0 (l.length + 1)] [.arr (l.length + 1) 4 (appG l.length (chG l) (zg (chG [x]) 0)), .arr 1 4 (chG [x])]))) (.side (inR .i64 ((↑l.length : Int) + (1 : Int))) .fail)))) (by kernel_rfl) ?_
 simp only [Tree.holds, zd]
 refine ⟨by omega, fun _ => ⟨fun h => by simp at h, fun _ => ⟨fun h => ⟨⟨trivial, Nat.le_refl _, by omega⟩, fun _ => ?_⟩, fun h => ?_⟩⟩⟩
 ·refine RetR.keep [0, 1] rfl rfl (by show ∀ j, j < 2 → _; decide) rfl hq (by simp [resV, exp2, exp1, exp0, zq, eqA2]) ?_ rfl
  refine ⟨⟨rfl, rfl, ?_⟩, trivial, trivial⟩
  have e : l.take i ++ x :: l.drop i = l ++ [x] := by rw [h1, List.take_length, List.drop_length]
  rw [e]
  intro j o hj ho
  simp only [appG, chG, xk, zg, Nat.zero_add]
  split
  ·rfl
  ·have : j = l.length := by omega
   subst this
   rw [if_pos rfl, Nat.sub_self]; rfl
 ·exact absurd h1 (by have := of_decide_eq_false h; omega)
theorem zdr : ze Tryz.prog 67 zeb := by
 intro args hc Q hq hfr
 obtain ⟨⟨l, x, i⟩, ⟨h1, h2, h3, h4, h5⟩, h6, h7⟩ := hq
 simp only at h1 h2 h3 h4 h5 h7
 rcases Nat.lt_or_ge i l.length with hlt | hge
 ·exact qq.le h1 (qq.leH h2 h3 (Xh (fn := Tryz.f67) (c := Tryz.f67.body.getD .skip) rfl rfl rfl (by decide) Yn hlt (by omega) (zd9 h4 (za _ _ _) (za _ _ _)) rfl rfl rfl (h7 () trivial)))
 ·exact U1 args hc Q ⟨(l, x, i), ⟨h1, h2, h3, by show i = l.length; omega, h5⟩, h6, h7⟩ hfr
theorem zdq : ze Tryz.prog 72 zet := by
 intro args hc Q hq hfr
 obtain ⟨⟨l, x, i⟩, ⟨h1, h2, h3, h4, h5⟩, h6, h7⟩ := hq
 simp only at h1 h2 h3 h4 h5 h7
 rcases Nat.lt_or_ge i l.length with hlt | hge
 ·exact qq.le h1 (qq.leH h2 h3 (Xh (fn := Tryz.f72) (c := Tryz.f72.body.getD .skip) rfl rfl rfl (by decide) YF hlt (by omega) (zd4 h4 (za _ _ _) (za _ _ _)) rfl rfl rfl (h7 () trivial)))
 ·exact U2 args hc Q ⟨(l, x, i), ⟨h1, h2, h3, by show i = l.length; omega, h5⟩, h6, h7⟩ hfr
end Go.Proofs.Tryz
end

/- What is known: the code's places. -/
section
set_option maxRecDepth 100000
open Go Go.Sx Go.Proofs Go.Nov
namespace Go.Proofs.Tryz
attribute [local simp] eqKV eqA eqA0 eqH eqB eqL eqL0
noncomputable def K38 : List Go.Sx.Item := [.code (Tryz.f38.body.getD .skip)]
noncomputable def K41 : List Go.Sx.Item := [.code (Tryz.f41.body.getD .skip)]
noncomputable def GPl : Nat → Option Ctr := fun f => if f = 39 then some (yr) else if f = 42 then some (yM) else if f = 43 then some (Jt) else if f = 40 then some (Jy) else if f = 66 then some (Xm) else if f = 71 then some (XH) else if f = 67 then some (zeb) else if f = 72 then some (zet) else none
theorem Wh : ∀ g c, GPl g = some c → ze Tryz.prog g c := okIf x9 (okIf xQ (okIf Jc (okIf QB (okIf Yv (okIf Y0 (okIf zdr (okIf zdq (zn))))))))
def SPlc (l : List Fx) (i : Nat) : KV := [(0, fxS l), (2, .fn 39 [] []), (4, .ptr 0 0), (8, .osl 1 3 0 l.length), (10, .int .i64 (i : Int)), (29, .undef), (30, .undef), (31, .undef), (32, .undef), (33, .undef), (34, .undef), (35, .undef), (36, .undef)]
def HPl (l : List Fx) (x : Fx) : Heap := [.box [.str x.name, .int .i64 x.date, .str x.value], .arr l.length 3 (fxG l)]
def SQl (l : List Ch) (i : Nat) : KV := [(0, chS l), (2, .fn 42 [] []), (4, .ptr 0 0), (8, .osl 1 4 0 l.length), (10, .int .i64 (i : Int)), (29, .undef), (30, .undef), (31, .undef), (32, .undef), (33, .undef), (34, .undef), (35, .undef), (36, .undef)]
def HQl (l : List Ch) (x : Ch) : Heap := [.box [.str x.zb, .str x.name, .int .i64 x.date, .bool x.first], .arr l.length 4 (chG l)]
def Z9 : Ctr := ctrP true (fun p : List Fx × Fx => [fxS p.1, p.2.av, .fn 39 [] []]) (fun p => p.1.length ≤ 1000 ∧ ordB cmpF Fx.nil p.1 = true) (fun p (r : List Fx × Bool) => r = (zo cmpF p.2 p.1, decide ((zo cmpF p.2 p.1).length ≤ 1000))) (fun _ r => (.tup [.osl 0 3 0 r.1.length, .bool r.2], [.arr r.1.length 3 (fxG r.1)]))
theorem VL : ze Tryz.prog 38 Z9 := by
 refine zh (fn := Tryz.f38) (c := Tryz.f38.body.getD .skip) rfl rfl rfl fun p hp O w0 Q hq => ?_
 obtain ⟨l, x⟩ := p
 obtain ⟨hl, hord⟩ := hp
 replace hq := hq _ rfl
 simp only at hq hl hord
 have hpw := vX ue hord
 refine zc.run hmix Wh [0, 2, 4, 8, 10, 29, 30, 31, 32, 33, 34, 35, 36] 400 (T := .ex (fun (x : List Fx) => eqL [AV.sl l.length 3 (fxG l)] [AV.sl x.length 3 (fxG x)] ∧ x.length < 1099511627776) fun n => .all (fun (x : Unit) => True) fun n_1 => .ex (fun (x_1 : List Fx × Fx) => eqL [AV.sl n.length 3 (zg (fxG n) 0), AV.agg [AV.str x.name, AV.int .i64 x.date, AV.str x.value], AV.fn 39 [] []] [AV.sl x_1.1.length 3 (fxG x_1.1), AV.agg [AV.str x_1.2.name, AV.int .i64 x_1.2.date, AV.str x_1.2.value], AV.fn 39 [] []] ∧ x_1.1.length < 1099511627776) fun n_2 => .all (fun (r : Int) => r = idxB (fun (x : Fx) => decide (cmpF x n_2.2 = 0)) n_2.1) fun n_3 => .ite (decide ((0 : Int) ≤ n_3)) (.side ((0 : Int) ≤ n_3 ∧ n_3 < (↑n.length : Int)) (.leaf (.ret [.osl 1 3 0 n.length, .bool true] [.box [.str x.name, .int .i64 x.date, .str x.value], .arr n.length 3 (updG (fxG n) (0 + Int.toNat n_3) 0 [.str x.name, .int .i64 x.date, .str x.value])]))) (.leaf (.loop (Prod.fst (lps K38 0)) (Prod.snd (lps K38 0)) [(0, .sl l.length 3 (fxG l)), (2, .fn 39 [] []), (4, .ptr 0 0), (8, .osl 1 3 0 n.length), (10, .int .i64 0), (29, .undef), (30, .undef), (31, .undef), (32, .undef), (33, .undef), (34, .undef), (35, .undef), (36, .undef)] [.box [.str x.name, .int .i64 x.date, .str x.value], .arr n.length 3 (fxG n)]))) (by kernel_rfl) ?_
 simp only [Tree.holds, zd]
 have fin : ∀ (r : List Fx) (b : Bool) (h : Heap) (g : Nat → Nat → AV), r = zo cmpF x l → b = decide ((zo cmpF x l).length ≤ 1000) → h.length = 2 ∨ h.length = 3 → h.getD 1 .dead = .arr r.length 3 g → eqG r.length 3 g (fxG r) → RetR Z9 0 Q [.osl 1 3 0 r.length, .bool b] h := by
  intro r b h g hr hb hlen hh hg
  subst hr; subst hb
  refine RetR.outs [1] rfl (by simp; omega) hq (fun _ => ⟨?_, ?_⟩) ?_ ?_ rfl
  ·simp [resV, new2, new1, new0, zq, zD]
  ·simp only [List.mem_cons, List.not_mem_nil, or_false, forall_eq, hh]
   exact Zg hg
  ·simp [resV, exp2, exp1, exp0, zq, ren0, eqA2, eqL1]
  ·simp only [expH, List.map_cons, List.map_nil, hh, expB]
   exact ⟨⟨rfl, rfl, hg⟩, trivial⟩
 refine ⟨l, ⟨by simp [za], by omega⟩, ⟨(), trivial⟩, fun _ _ => ⟨(l, x), ⟨by simp [qW], by show l.length < 2 ^ 40; omega⟩, ⟨_, rfl⟩, ?_⟩⟩
 rintro _ rfl
 obtain ⟨hlt, hfd⟩ := QH (p := fun y => decide (cmpF y x = 0)) Fx.nil l
 refine ⟨fun h => ?_, fun h => ?_⟩
 ·have h := of_decide_eq_true h
  rw [if_pos h] at hfd
  simp only at h hlt ⊢
  have hk := List.find?_some hfd
  have hk : cmpF (l.getD (idxB (fun y => decide (cmpF y x = 0)) l).toNat Fx.nil) x = 0 := of_decide_eq_true hk
  have hsp := uy ue (x := x) (z := Fx.nil) hpw (show (idxB (fun y => decide (cmpF y x = 0)) l).toNat < l.length by omega) hk
  refine ⟨⟨h, hlt⟩, fun _ => ?_⟩
  have hlen : (l.set (idxB (fun y => decide (cmpF y x = 0)) l).toNat x).length = l.length := List.length_set
  have := fin _ true _ (updG (fxG l) (0 + (idxB (fun y => decide (cmpF y x = 0)) l).toNat) 0 [.str x.name, .int .i64 x.date, .str x.value]) hsp (by rw [← hsp, hlen]; exact (decide_eq_true hl).symm) (.inl (rfl : ([.box [.str x.name, .int .i64 x.date, .str x.value], .arr l.length 3 (updG (fxG l) (0 + (idxB (fun y => decide (cmpF y x = 0)) l).toNat) 0 [.str x.name, .int .i64 x.date, .str x.value])] : Heap).length = 2)) (by rw [hlen]; rfl) (by rw [hlen, Nat.zero_add]; exact zfy (by omega))
  rw [hlen] at this
  exact this
 ·have h := of_decide_eq_false h
  rw [if_neg h, List.find?_eq_none] at hfd
  have hno : ∀ j, j < l.length → cmpF (l.getD j Fx.nil) x ≠ 0 := fun j hj h0 => by
   exact hfd (l.getD j Fx.nil) (by simp [List.getD, hj]) (decide_eq_true h0)
  refine zc.loop (ι := {i : Nat // i ≤ l.length ∧ ∀ j, j < i → cmpF (l.getD j Fx.nil) x < 0}) (fun i => SPlc l i.1) (fun _ => HPl l x) (fun i => l.length - i.1) ⟨0, Nat.zero_le _, fun j hj => by omega⟩ 0 ?_ ?_ (by kernel_rfl)
  ·exact ⟨by simp [SPlc, fxS, za], by simp [HPl, za], by kernel_rfl, Nat.zero_le _⟩
  ·rintro ⟨i, hil, hib⟩
   refine zc.run hmix Wh [0, 2, 4, 8, 10, 29, 30, 31, 32, 33, 34, 35, 36] 400 (T := .side (decide ((↑i : Int) < l.length) = true → (0 : Int) ≤ i ∧ (↑i : Int) < l.length) (.ex (fun (x_1 : Fx × Fx) => decide ((↑i : Int) < l.length) = true → eqL [AV.agg [AV.str (Fx.name (List.getD l (0 + Int.toNat (↑i : Int)) Fx.nil)), AV.int .i64 (Fx.date (List.getD l (0 + Int.toNat (↑i : Int)) Fx.nil)), AV.str (Fx.value (List.getD l (0 + Int.toNat (↑i : Int)) Fx.nil))], AV.agg [AV.str x.name, AV.int .i64 x.date, AV.str x.value]] [AV.agg [AV.str x_1.1.name, AV.int .i64 x_1.1.date, AV.str x_1.1.value], AV.agg [AV.str x_1.2.name, AV.int .i64 x_1.2.date, AV.str x_1.2.value]] ∧ True) fun n => .all (fun (x : Int) => decide ((↑i : Int) < l.length) = true → x = cmpF n.1 n.2) fun n => .ite (bif decide ((↑i : Int) < l.length) then decide (n < 0) else false) (.side (inR .i64 ((↑i : Int) + (1 : Int))) (.leaf (.back 0 [(0, .sl l.length 3 (fxG l)), (2, .fn 39 [] []), (4, .ptr 0 0), (8, .osl 1 3 0 l.length), (10, .int .i64 ((↑i : Int) + (1 : Int))), (29, .undef), (30, .undef), (31, .undef), (32, .undef), (33, .undef), (34, .undef), (35, .undef), (36, .undef)] [.box [.str x.name, .int .i64 x.date, .str x.value], .arr l.length 3 (fxG l)]))) (.ex (fun (x_1 : List Fx × Fx × Nat) => eqL [AV.osl 0 3 0 l.length, AV.int .i64 i, AV.osl 1 3 0 1] [AV.osl 0 3 0 x_1.1.length, AV.int .i64 x_1.2.2, AV.osl 1 3 0 1] ∧ eqH [.arr l.length 3 (fxG l), .arr 1 3 (zf 3 [AV.str x.name, AV.int .i64 x.date, AV.str x.value])] [.arr x_1.1.length 3 (fxG x_1.1), .arr 1 3 (fxG [x_1.2.1])] ∧ 2 = 2 ∧ x_1.2.2 ≤ x_1.1.length ∧ x_1.1.length < 1099511627776) fun n => .all (fun (x : Unit) => True) fun n_1 => .leaf (.ret [.osl 1 3 0 (n.1.length + 1), .bool (decide ((↑l.length : Int) < 1000))] [.box [.str x.name, .int .i64 x.date, .str x.value], .arr (n.1.length + 1) 3 (fxG (List.take n.2.2 n.1 ++ n.2.1 :: List.drop n.2.2 n.1)), .dead])))) (by kernel_rfl) ?_
   simp only [Tree.holds, zd, inR, lo, hi, Int.toNat_natCast, Nat.zero_add]
   refine ⟨fun h => by have := of_decide_eq_true h; omega, fun _ => ⟨(l.getD i Fx.nil, x), fun _ => ⟨by simp, trivial⟩, ⟨_, fun _ => rfl⟩, ?_⟩⟩
   intro n hn
   refine ⟨fun h2 => ?_, fun h2 => ?_⟩
   ·rw [Bool.cond_eq_ite] at h2
    split at h2
    ·rename_i g1
     rw [hn g1] at h2
     have g1 := of_decide_eq_true g1
     have h2 := of_decide_eq_true h2
     refine ⟨by omega, fun _ => ?_⟩
     rw [if_pos trivial]
     refine ⟨⟨i + 1, by omega, fun j hj => ?_⟩, by show l.length - (i + 1) < l.length - i; omega, by simp [SPlc, fxS, za], by simp [HPl, za], by kernel_rfl, Nat.zero_le _⟩
     rcases Nat.lt_or_ge j i with h1 | h1
     ·exact hib j h1
     ·have : j = i := by omega
      rw [this]; exact h2
    ·cases h2
   ·have hnot : i < l.length → ¬ cmpF (l.getD i Fx.nil) x < 0 := fun hlt2 => by
     have g1 : decide ((i : Int) < l.length) = true := decide_eq_true (by omega)
     rw [g1, hn g1] at h2
     exact of_decide_eq_false h2
    refine ⟨(l, x, i), ⟨by simp, ⟨⟨rfl, rfl, za _ _ _⟩, ⟨rfl, rfl, fun j o hj ho => ?_⟩, trivial⟩, trivial, hil, by show l.length < 2 ^ 40; omega⟩, ⟨(), trivial⟩, fun _ _ => ?_⟩
    ·have := Fx.v7 x hj ho
     simp only [zg, Nat.zero_add] at this
     rw [this]
     have : j = 0 := by omega
     subst this; rfl
    ·have hins := yZ (x := x) (z := Fx.nil) hno hib hil hnot
     have hlen : (l.take i ++ x :: l.drop i).length = l.length + 1 := by simp; omega
     have := fin _ (decide ((l.length : Int) < 1000)) [.box [.str x.name, .int .i64 x.date, .str x.value], .arr (l.length + 1) 3 (fxG (l.take i ++ x :: l.drop i)), .dead] (fxG (l.take i ++ x :: l.drop i)) hins (by rw [← hins, hlen]; exact decide_eq_decide.2 (by omega)) (.inr rfl) (by rw [hlen]; rfl) (za _ _ _)
     rw [hlen] at this
     exact this
def Z0 : Ctr := ctrP true (fun p : List Ch × Ch => [chS p.1, p.2.av, .fn 42 [] []]) (fun p => p.1.length ≤ 1000 ∧ ordB cmpC Ch.nil p.1 = true) (fun p (r : List Ch × Bool) => r = (zo cmpC p.2 p.1, decide ((zo cmpC p.2 p.1).length ≤ 1000))) (fun _ r => (.tup [.osl 0 4 0 r.1.length, .bool r.2], [.arr r.1.length 4 (chG r.1)]))
theorem KD : ze Tryz.prog 41 Z0 := by
 refine zh (fn := Tryz.f41) (c := Tryz.f41.body.getD .skip) rfl rfl rfl fun p hp O w0 Q hq => ?_
 obtain ⟨l, x⟩ := p
 obtain ⟨hl, hord⟩ := hp
 replace hq := hq _ rfl
 simp only at hq hl hord
 have hpw := vX uB hord
 refine zc.run hmix Wh [0, 2, 4, 8, 10, 29, 30, 31, 32, 33, 34, 35, 36] 400 (T := .ex (fun (x : List Ch) => eqL [AV.sl l.length 4 (chG l)] [AV.sl x.length 4 (chG x)] ∧ x.length < 1099511627776) fun n => .all (fun (x : Unit) => True) fun n_1 => .ex (fun (x_1 : List Ch × Ch) => eqL [AV.sl n.length 4 (zg (chG n) 0), AV.agg [AV.str x.zb, AV.str x.name, AV.int .i64 x.date, AV.bool x.first], AV.fn 42 [] []] [AV.sl x_1.1.length 4 (chG x_1.1), AV.agg [AV.str x_1.2.zb, AV.str x_1.2.name, AV.int .i64 x_1.2.date, AV.bool x_1.2.first], AV.fn 42 [] []] ∧ x_1.1.length < 1099511627776) fun n_2 => .all (fun (r : Int) => r = idxB (fun (x : Ch) => decide (cmpC x n_2.2 = 0)) n_2.1) fun n_3 => .ite (decide ((0 : Int) ≤ n_3)) (.side ((0 : Int) ≤ n_3 ∧ n_3 < (↑n.length : Int)) (.leaf (.ret [.osl 1 4 0 n.length, .bool true] [.box [.str x.zb, .str x.name, .int .i64 x.date, .bool x.first], .arr n.length 4 (updG (chG n) (0 + Int.toNat n_3) 0 [.str x.zb, .str x.name, .int .i64 x.date, .bool x.first])]))) (.leaf (.loop (Prod.fst (lps K41 0)) (Prod.snd (lps K41 0)) [(0, .sl l.length 4 (chG l)), (2, .fn 42 [] []), (4, .ptr 0 0), (8, .osl 1 4 0 n.length), (10, .int .i64 0), (29, .undef), (30, .undef), (31, .undef), (32, .undef), (33, .undef), (34, .undef), (35, .undef), (36, .undef)] [.box [.str x.zb, .str x.name, .int .i64 x.date, .bool x.first], .arr n.length 4 (chG n)]))) (by kernel_rfl) ?_
 simp only [Tree.holds, zd]
 have fin : ∀ (r : List Ch) (b : Bool) (h : Heap) (g : Nat → Nat → AV), r = zo cmpC x l → b = decide ((zo cmpC x l).length ≤ 1000) → h.length = 2 ∨ h.length = 3 → h.getD 1 .dead = .arr r.length 4 g → eqG r.length 4 g (chG r) → RetR Z0 0 Q [.osl 1 4 0 r.length, .bool b] h := by
  intro r b h g hr hb hlen hh hg
  subst hr; subst hb
  refine RetR.outs [1] rfl (by simp; omega) hq (fun _ => ⟨?_, ?_⟩) ?_ ?_ rfl
  ·simp [resV, new2, new1, new0, zq, zD]
  ·simp only [List.mem_cons, List.not_mem_nil, or_false, forall_eq, hh]
   exact Ze hg
  ·simp [resV, exp2, exp1, exp0, zq, ren0, eqA2, eqL1]
  ·simp only [expH, List.map_cons, List.map_nil, hh, expB]
   exact ⟨⟨rfl, rfl, hg⟩, trivial⟩
 refine ⟨l, ⟨by simp [za], by omega⟩, ⟨(), trivial⟩, fun _ _ => ⟨(l, x), ⟨by simp [qW], by show l.length < 2 ^ 40; omega⟩, ⟨_, rfl⟩, ?_⟩⟩
 rintro _ rfl
 obtain ⟨hlt, hfd⟩ := QH (p := fun y => decide (cmpC y x = 0)) Ch.nil l
 refine ⟨fun h => ?_, fun h => ?_⟩
 ·have h := of_decide_eq_true h
  rw [if_pos h] at hfd
  simp only at h hlt ⊢
  have hk := List.find?_some hfd
  have hk : cmpC (l.getD (idxB (fun y => decide (cmpC y x = 0)) l).toNat Ch.nil) x = 0 := of_decide_eq_true hk
  have hsp := uy uB (x := x) (z := Ch.nil) hpw (show (idxB (fun y => decide (cmpC y x = 0)) l).toNat < l.length by omega) hk
  refine ⟨⟨h, hlt⟩, fun _ => ?_⟩
  have hlen : (l.set (idxB (fun y => decide (cmpC y x = 0)) l).toNat x).length = l.length := List.length_set
  have := fin _ true _ (updG (chG l) (0 + (idxB (fun y => decide (cmpC y x = 0)) l).toNat) 0 [.str x.zb, .str x.name, .int .i64 x.date, .bool x.first]) hsp (by rw [← hsp, hlen]; exact (decide_eq_true hl).symm) (.inl (rfl : ([.box [.str x.zb, .str x.name, .int .i64 x.date, .bool x.first], .arr l.length 4 (updG (chG l) (0 + (idxB (fun y => decide (cmpC y x = 0)) l).toNat) 0 [.str x.zb, .str x.name, .int .i64 x.date, .bool x.first])] : Heap).length = 2)) (by rw [hlen]; rfl) (by rw [hlen, Nat.zero_add]; exact zfq (by omega))
  rw [hlen] at this
  exact this
 ·have h := of_decide_eq_false h
  rw [if_neg h, List.find?_eq_none] at hfd
  have hno : ∀ j, j < l.length → cmpC (l.getD j Ch.nil) x ≠ 0 := fun j hj h0 => by
   exact hfd (l.getD j Ch.nil) (by simp [List.getD, hj]) (decide_eq_true h0)
  refine zc.loop (ι := {i : Nat // i ≤ l.length ∧ ∀ j, j < i → cmpC (l.getD j Ch.nil) x < 0}) (fun i => SQl l i.1) (fun _ => HQl l x) (fun i => l.length - i.1) ⟨0, Nat.zero_le _, fun j hj => by omega⟩ 0 ?_ ?_ (by kernel_rfl)
  ·exact ⟨by simp [SQl, chS, za], by simp [HQl, za], by kernel_rfl, Nat.zero_le _⟩
  ·rintro ⟨i, hil, hib⟩
   refine zc.run hmix Wh [0, 2, 4, 8, 10, 29, 30, 31, 32, 33, 34, 35, 36] 400 (T := .side (decide ((↑i : Int) < l.length) = true → (0 : Int) ≤ i ∧ (↑i : Int) < l.length) (.ex (fun (x_1 : Ch × Ch) => decide ((↑i : Int) < l.length) = true → eqL [AV.agg [AV.str (Ch.zb (List.getD l (0 + Int.toNat (↑i : Int)) Ch.nil)), AV.str (Ch.name (List.getD l (0 + Int.toNat (↑i : Int)) Ch.nil)), AV.int .i64 (Ch.date (List.getD l (0 + Int.toNat (↑i : Int)) Ch.nil)), AV.bool (Ch.first (List.getD l (0 + Int.toNat (↑i : Int)) Ch.nil))], AV.agg [AV.str x.zb, AV.str x.name, AV.int .i64 x.date, AV.bool x.first]] [AV.agg [AV.str x_1.1.zb, AV.str x_1.1.name, AV.int .i64 x_1.1.date, AV.bool x_1.1.first], AV.agg [AV.str x_1.2.zb, AV.str x_1.2.name, AV.int .i64 x_1.2.date, AV.bool x_1.2.first]] ∧ True) fun n => .all (fun (x : Int) => decide ((↑i : Int) < l.length) = true → x = cmpC n.1 n.2) fun n => .ite (bif decide ((↑i : Int) < l.length) then decide (n < 0) else false) (.side (inR .i64 ((↑i : Int) + (1 : Int))) (.leaf (.back 0 [(0, .sl l.length 4 (chG l)), (2, .fn 42 [] []), (4, .ptr 0 0), (8, .osl 1 4 0 l.length), (10, .int .i64 ((↑i : Int) + (1 : Int))), (29, .undef), (30, .undef), (31, .undef), (32, .undef), (33, .undef), (34, .undef), (35, .undef), (36, .undef)] [.box [.str x.zb, .str x.name, .int .i64 x.date, .bool x.first], .arr l.length 4 (chG l)]))) (.ex (fun (x_1 : List Ch × Ch × Nat) => eqL [AV.osl 0 4 0 l.length, AV.int .i64 i, AV.osl 1 4 0 1] [AV.osl 0 4 0 x_1.1.length, AV.int .i64 x_1.2.2, AV.osl 1 4 0 1] ∧ eqH [.arr l.length 4 (chG l), .arr 1 4 (zf 4 [AV.str x.zb, AV.str x.name, AV.int .i64 x.date, AV.bool x.first])] [.arr x_1.1.length 4 (chG x_1.1), .arr 1 4 (chG [x_1.2.1])] ∧ 2 = 2 ∧ x_1.2.2 ≤ x_1.1.length ∧ x_1.1.length < 1099511627776) fun n => .all (fun (x : Unit) => True) fun n_1 => .leaf (.ret [.osl 1 4 0 (n.1.length + 1), .bool (decide ((↑l.length : Int) < 1000))] [.box [.str x.zb, .str x.name, .int .i64 x.date, .bool x.first], .arr (n.1.length + 1) 4 (chG (List.take n.2.2 n.1 ++ n.2.1 :: List.drop n.2.2 n.1)), .dead])))) (by kernel_rfl) ?_
   simp only [Tree.holds, zd, inR, lo, hi, Int.toNat_natCast, Nat.zero_add]
   refine ⟨fun h => by have := of_decide_eq_true h; omega, fun _ => ⟨(l.getD i Ch.nil, x), fun _ => ⟨by simp, trivial⟩, ⟨_, fun _ => rfl⟩, ?_⟩⟩
   intro n hn
   refine ⟨fun h2 => ?_, fun h2 => ?_⟩
   ·rw [Bool.cond_eq_ite] at h2
    split at h2
    ·rename_i g1
     rw [hn g1] at h2
     have g1 := of_decide_eq_true g1
     have h2 := of_decide_eq_true h2
     refine ⟨by omega, fun _ => ?_⟩
     rw [if_pos trivial]
     refine ⟨⟨i + 1, by omega, fun j hj => ?_⟩, by show l.length - (i + 1) < l.length - i; omega, by simp [SQl, chS, za], by simp [HQl, za], by kernel_rfl, Nat.zero_le _⟩
     rcases Nat.lt_or_ge j i with h1 | h1
     ·exact hib j h1
     ·have : j = i := by omega
      rw [this]; exact h2
    ·cases h2
   ·have hnot : i < l.length → ¬ cmpC (l.getD i Ch.nil) x < 0 := fun hlt2 => by
     have g1 : decide ((i : Int) < l.length) = true := decide_eq_true (by omega)
     rw [g1, hn g1] at h2
     exact of_decide_eq_false h2
    refine ⟨(l, x, i), ⟨by simp, ⟨⟨rfl, rfl, za _ _ _⟩, ⟨rfl, rfl, fun j o hj ho => ?_⟩, trivial⟩, trivial, hil, by show l.length < 2 ^ 40; omega⟩, ⟨(), trivial⟩, fun _ _ => ?_⟩
    ·have := Ch.v7 x hj ho
     simp only [zg, Nat.zero_add] at this
     rw [this]
     have : j = 0 := by omega
     subst this; rfl
    ·have hins := yZ (x := x) (z := Ch.nil) hno hib hil hnot
     have hlen : (l.take i ++ x :: l.drop i).length = l.length + 1 := by simp; omega
     have := fin _ (decide ((l.length : Int) < 1000)) [.box [.str x.zb, .str x.name, .int .i64 x.date, .bool x.first], .arr (l.length + 1) 4 (chG (l.take i ++ x :: l.drop i)), .dead] (chG (l.take i ++ x :: l.drop i)) hins (by rw [← hins, hlen]; exact decide_eq_decide.2 (by omega)) (.inr rfl) (by rw [hlen]; rfl) (za _ _ _)
     rw [hlen] at this
     exact this
noncomputable def GPu : Nat → Option Ctr := fun f => if f = 34 then some (yp) else if f = 35 then some (xy) else if f = 36 then some (xo) else if f = 37 then some (Zd) else if f = 38 then some (Z9) else if f = 41 then some (Z0) else if f = 43 then some (Jt) else if f = 40 then some (Jy) else none
theorem Uu : ∀ g c, GPu g = some c → ze Tryz.prog g c := okIf Yi (okIf JO (okIf Jp (okIf ur (okIf VL (okIf KD (okIf Jc (okIf QB (zn))))))))
def zei : Ctr := ctrP true (fun p : (List Fx × List Ch) × Fx => [envA p.1.1 p.1.2, p.2.av]) (fun p => envP p.1 ∧ qn p.2) (fun p r => r = putF p.1.1 p.1.2 p.2) (fun _ (r : (List Fx × List Ch) × Int) => (.tup [.agg [.osl 0 3 0 r.1.1.length, .osl 1 4 0 r.1.2.length], .int .i64 r.2], [.arr r.1.1.length 3 (fxG r.1.1), .arr r.1.2.length 4 (chG r.1.2)]))
def zeh : Ctr := ctrP true (fun p : (List Fx × List Ch) × Ch => [envA p.1.1 p.1.2, p.2.av]) (fun p => envP p.1 ∧ qj p.2) (fun p r => r = putC p.1.1 p.1.2 p.2) (fun _ (r : (List Fx × List Ch) × Int) => (.tup [.agg [.osl 0 3 0 r.1.1.length, .osl 1 4 0 r.1.2.length], .int .i64 r.2], [.arr r.1.1.length 3 (fxG r.1.1), .arr r.1.2.length 4 (chG r.1.2)]))
theorem Xq {ctr : Ctr} {Q : AV × Heap → Prop} (e : Int) (h : Heap) (hq : Q (.tup [.agg [.osl 0 3 0 ([] : List Fx).length, .osl 1 4 0 ([] : List Ch).length], .int .i64 e], [.arr ([] : List Fx).length 3 (fxG []), .arr ([] : List Ch).length 4 (chG [])])) : RetR ctr 0 (upQ Q) [.agg [.nils, .nils], .int .i64 e] h := by
 refine RetR.out0 (r := .tup [.agg [.nils, .nils], .int .i64 e]) (.inr ⟨_, [(3, fxG []), (4, chG [])], ?_, hq⟩) (fun _ => by simp [resV, new2, new1, new0, zD]) (by simp [resV, exp2, exp1, exp0, ren0, eqA2, eqL1])
 simp [upA2, upA1, upA0, upL1, upL0]
theorem zdi : ze Tryz.prog 26 zei := by
 refine yc (fn := Tryz.f26) (c := Tryz.f26.body.getD .skip) rfl rfl rfl fun p hp O w0 Q hq => ?_
 obtain ⟨⟨f, c⟩, ⟨a, d, v⟩⟩ := p
 obtain ⟨he, hs1, hs2⟩ := hp
 replace hq := hq _ rfl
 simp only at hq he hs1 hs2
 refine zc.run hmix Uu [] 400 (T := .ex (fun (x : List Fx × List Ch) => eqL [AV.agg [AV.sl f.length 3 (fxG f), AV.sl c.length 4 (chG c)]] [AV.agg [AV.sl x.1.length 3 (fxG x.1), AV.sl x.2.length 4 (chG x.2)]] ∧ envP x) fun n => .all (fun (r : Int) => r = errE n.1 n.2) fun n => .ite (!decide (n = 0)) (.leaf (.ret [.agg [.nils, .nils], .int .i64 n] [.box [.sl f.length 3 (fxG f), .sl c.length 4 (chG c)], .box [.str a, .int .i64 d, .str v], .box [.nils, .nils]])) (.ex (fun (x : List UInt8) => eqL [AV.str a] [AV.str x] ∧ x.length < 4611686018427387904) fun n => .all (fun (r : Bool) => r = zu n) fun n => .ex (fun (x : Int) => (!n) = false → eqL [AV.int .i64 d] [AV.int .i64 x] ∧ True) fun n_1 => .all (fun (x : Bool) => (!n) = false → x = dayB n_1) fun n_2 => .ite (bif !n then true else !n_2) (.leaf (.ret [.agg [.nils, .nils], .int .i64 2] [.box [.sl f.length 3 (fxG f), .sl c.length 4 (chG c)], .box [.str a, .int .i64 d, .str v], .box [.nils, .nils]])) (.ex (fun (x : List UInt8) => eqL [AV.str v] [AV.str x] ∧ x.length < 4611686018427387904) fun n => .all (fun (r : Int) => r = errR n) fun n => .ite (!decide (n = 0)) (.leaf (.ret [.agg [.nils, .nils], .int .i64 n] [.box [.sl f.length 3 (fxG f), .sl c.length 4 (chG c)], .box [.str a, .int .i64 d, .str v], .box [.nils, .nils]])) (.ex (fun (x : List Fx × Fx) => eqL [AV.sl f.length 3 (fxG f), AV.agg [AV.str a, AV.int .i64 d, AV.str v], AV.fn 39 [] []] [AV.sl x.1.length 3 (fxG x.1), AV.agg [AV.str x.2.name, AV.int .i64 x.2.date, AV.str x.2.value], AV.fn 39 [] []] ∧ x.1.length ≤ 1000 ∧ ordB cmpF Fx.nil x.1 = true) fun n => .all (fun (r : List Fx × Bool) => r = (zo cmpF n.2 n.1, decide (List.length (zo cmpF n.2 n.1) ≤ 1000))) fun n => .ite (!Prod.snd n) (.leaf (.ret [.agg [.nils, .nils], .int .i64 22] [.box [.sl f.length 3 (fxG f), .sl c.length 4 (chG c)], .box [.str a, .int .i64 d, .str v], .box [.nils, .nils], .arr n.1.length 3 (fxG n.1)])) (.ex (fun (x : List Ch) => eqL [AV.sl c.length 4 (chG c)] [AV.sl x.length 4 (chG x)] ∧ x.length < 1099511627776) fun n_3 => .all (fun (x : Unit) => True) fun n_4 => .leaf (.ret [.agg [.osl 3 3 0 n.1.length, .osl 4 4 0 n_3.length], .int .i64 0] [.box [.sl f.length 3 (fxG f), .sl c.length 4 (chG c)], .box [.str a, .int .i64 d, .str v], .box [.osl 3 3 0 n.1.length, .osl 4 4 0 n_3.length], .arr n.1.length 3 (fxG n.1), .arr n_3.length 4 (chG n_3)])))))) (by kernel_rfl) ?_
 simp only [Tree.holds, zd]
 have bad : ∀ (e : Int) (h : Heap), putF f c ⟨a, d, v⟩ = (([], []), e) → RetR zei 0 (upQ Q) [.agg [.nils, .nils], .int .i64 e] h := fun e h hr => by
  rw [hr] at hq
  exact Xq e h hq
 refine ⟨(f, c), ⟨by simp [za], he⟩, ⟨_, rfl⟩, ?_⟩
 rintro _ rfl
 refine ⟨fun h => ?_, fun h => ?_⟩
 ·have h : errE f c ≠ 0 := by simpa using h
  exact bad _ _ (by simp [putF, h])
 ·have h : errE f c = 0 := by simpa using h
  refine ⟨a, ⟨by simp, by omega⟩, ⟨_, rfl⟩, ?_⟩
  rintro _ rfl
  refine ⟨d, fun _ => ⟨by simp, trivial⟩, ⟨_, fun _ => rfl⟩, ?_⟩
  intro b1 g1
  have key : (bif !zu a then true else !b1) = !(zu a && dayB d) := by
   cases hn : zu a with
   | false => rfl
   | true => rw [g1 (by rw [hn]; rfl)]; rfl
  rw [key]
  refine ⟨fun h2 => ?_, fun h2 => ?_⟩
  ·exact bad _ _ (by simp only [putF]; rw [if_neg (by simp [h]), if_pos (by simpa only [Bool.not_eq_true'] using h2)])
  ·have h2 : ¬ (zu a && dayB d) = false := by simpa using h2
   refine ⟨v, ⟨by simp, by omega⟩, ⟨_, rfl⟩, ?_⟩
   rintro _ rfl
   refine ⟨fun h3 => ?_, fun h3 => ?_⟩
   ·have h3 : errR v ≠ 0 := by simpa using h3
    exact bad _ _ (by simp only [putF]; rw [if_neg (by simp [h]), if_neg h2, if_pos h3])
   ·have h3 : ¬ errR v ≠ 0 := by simpa using h3
    obtain ⟨hb, _, _, ho, _⟩ := kh.1 h
    refine ⟨(f, ⟨a, d, v⟩), ⟨by simp [za], by show f.length ≤ 1000; omega, ho⟩, ⟨_, rfl⟩, ?_⟩
    rintro _ rfl
    refine ⟨fun h4 => ?_, fun h4 => ?_⟩
    ·have h4 : 1000 < (zo cmpF ⟨a, d, v⟩ f).length := by simpa using h4
     exact bad _ _ (by simp only [putF]; rw [if_neg (by simp [h]), if_neg h2, if_neg h3, if_pos h4])
    ·have h4 : ¬ 1000 < (zo cmpF ⟨a, d, v⟩ f).length := by simpa using h4
     have hr : putF f c ⟨a, d, v⟩ = ((zo cmpF ⟨a, d, v⟩ f, c), 0) := by simp only [putF]; rw [if_neg (by simp [h]), if_neg h2, if_neg h3, if_neg h4]
     rw [hr] at hq
     refine ⟨c, ⟨by simp [za], by omega⟩, ⟨(), trivial⟩, fun _ _ => ?_⟩
     refine RetR.outs [3, 4] rfl rfl (.inl hq) (fun _ => ⟨?_, ?_⟩) ?_ ?_ rfl
     ·simp [resV, new2, new1, new0, zq, zD]
     ·simp only [List.mem_cons, List.not_mem_nil, or_false, forall_eq_or_imp, forall_eq]
      exact ⟨Zg (za _ _ _), Ze (za _ _ _)⟩
     ·simp [resV, exp2, exp1, exp0, zq, ren0, eqA2, eqL1]
     ·exact ⟨⟨rfl, rfl, za _ _ _⟩, ⟨rfl, rfl, za _ _ _⟩, trivial⟩
theorem zck : ze Tryz.prog 27 zeh := by
 refine yc (fn := Tryz.f27) (c := Tryz.f27.body.getD .skip) rfl rfl rfl fun p hp O w0 Q hq => ?_
 obtain ⟨⟨f, c⟩, ⟨a, v, d, b⟩⟩ := p
 obtain ⟨he, hs1, hs2⟩ := hp
 replace hq := hq _ rfl
 simp only at hq he hs1 hs2
 refine zc.run hmix Uu [] 400 (T := .ex (fun (x : List Fx × List Ch) => eqL [AV.agg [AV.sl f.length 3 (fxG f), AV.sl c.length 4 (chG c)]] [AV.agg [AV.sl x.1.length 3 (fxG x.1), AV.sl x.2.length 4 (chG x.2)]] ∧ envP x) fun n => .all (fun (r : Int) => r = errE n.1 n.2) fun n => .ite (!decide (n = 0)) (.leaf (.ret [.agg [.nils, .nils], .int .i64 n] [.box [.sl f.length 3 (fxG f), .sl c.length 4 (chG c)], .box [.str a, .str v, .int .i64 d, .bool b], .box [.nils, .nils]])) (.ex (fun (x : List UInt8) => eqL [AV.str a] [AV.str x] ∧ x.length < 4611686018427387904) fun n => .all (fun (r : Bool) => r = zu n) fun n => .ex (fun (x : List UInt8) => (!n) = false → eqL [AV.str v] [AV.str x] ∧ x.length < 4611686018427387904) fun n_1 => .all (fun (x : Bool) => (!n) = false → x = zu n_1) fun n_2 => .ex (fun (x : Int) => (bif !n then true else !n_2) = false → eqL [AV.int .i64 d] [AV.int .i64 x] ∧ True) fun n_3 => .all (fun (x : Bool) => (bif !n then true else !n_2) = false → x = dayB n_3) fun n_4 => .ite (bif bif !n then true else !n_2 then true else !n_4) (.leaf (.ret [.agg [.nils, .nils], .int .i64 2] [.box [.sl f.length 3 (fxG f), .sl c.length 4 (chG c)], .box [.str a, .str v, .int .i64 d, .bool b], .box [.nils, .nils]])) (.ex (fun (x : List Ch × Ch) => eqL [AV.sl c.length 4 (chG c), AV.agg [AV.str a, AV.str v, AV.int .i64 d, AV.bool b], AV.fn 42 [] []] [AV.sl x.1.length 4 (chG x.1), AV.agg [AV.str x.2.zb, AV.str x.2.name, AV.int .i64 x.2.date, AV.bool x.2.first], AV.fn 42 [] []] ∧ x.1.length ≤ 1000 ∧ ordB cmpC Ch.nil x.1 = true) fun n => .all (fun (r : List Ch × Bool) => r = (zo cmpC n.2 n.1, decide (List.length (zo cmpC n.2 n.1) ≤ 1000))) fun n => .ite (!Prod.snd n) (.leaf (.ret [.agg [.nils, .nils], .int .i64 22] [.box [.sl f.length 3 (fxG f), .sl c.length 4 (chG c)], .box [.str a, .str v, .int .i64 d, .bool b], .box [.nils, .nils], .arr n.1.length 4 (chG n.1)])) (.ex (fun (x : List Fx) => eqL [AV.sl f.length 3 (fxG f)] [AV.sl x.length 3 (fxG x)] ∧ x.length < 1099511627776) fun n_5 => .all (fun (x : Unit) => True) fun n_6 => .leaf (.ret [.agg [.osl 4 3 0 n_5.length, .osl 3 4 0 n.1.length], .int .i64 0] [.box [.sl f.length 3 (fxG f), .sl c.length 4 (chG c)], .box [.str a, .str v, .int .i64 d, .bool b], .box [.osl 4 3 0 n_5.length, .osl 3 4 0 n.1.length], .arr n.1.length 4 (chG n.1), .arr n_5.length 3 (fxG n_5)]))))) (by kernel_rfl) ?_
 simp only [Tree.holds, zd]
 have bad : ∀ (e : Int) (h : Heap), putC f c ⟨a, v, d, b⟩ = (([], []), e) → RetR zeh 0 (upQ Q) [.agg [.nils, .nils], .int .i64 e] h := fun e h hr => by
  rw [hr] at hq
  exact Xq e h hq
 refine ⟨(f, c), ⟨by simp [za], he⟩, ⟨_, rfl⟩, ?_⟩
 rintro _ rfl
 refine ⟨fun h => ?_, fun h => ?_⟩
 ·have h : errE f c ≠ 0 := by simpa using h
  exact bad _ _ (by simp [putC, h])
 ·have h : errE f c = 0 := by simpa using h
  refine ⟨a, ⟨by simp, by omega⟩, ⟨_, rfl⟩, ?_⟩
  rintro _ rfl
  refine ⟨v, fun _ => ⟨by simp, by omega⟩, ⟨_, fun _ => rfl⟩, ?_⟩
  intro b1 g1
  refine ⟨d, fun _ => ⟨by simp, trivial⟩, ⟨_, fun _ => rfl⟩, ?_⟩
  intro b2 g2
  have key : (bif bif !zu a then true else !b1 then true else !b2) = !okC ⟨a, v, d, b⟩ := by
   simp only [okC]
   cases hn : zu a with
   | false => rfl
   | true =>
    have g1 := g1 (by rw [hn]; rfl)
    subst g1
    cases hv : zu v with
    | false => rfl
    | true => rw [g2 (by rw [hn, hv]; rfl)]; rfl
  rw [key]
  refine ⟨fun h2 => ?_, fun h2 => ?_⟩
  ·exact bad _ _ (by simp only [putC]; rw [if_neg (by simp [h]), if_pos (by simpa only [Bool.not_eq_true'] using h2)])
  ·have h2 : ¬ okC ⟨a, v, d, b⟩ = false := by simpa using h2
   obtain ⟨hb, _, _, _, ho⟩ := kh.1 h
   refine ⟨(c, ⟨a, v, d, b⟩), ⟨by simp [za], by show c.length ≤ 1000; omega, ho⟩, ⟨_, rfl⟩, ?_⟩
   rintro _ rfl
   refine ⟨fun h4 => ?_, fun h4 => ?_⟩
   ·have h4 : 1000 < (zo cmpC ⟨a, v, d, b⟩ c).length := by simpa using h4
    exact bad _ _ (by simp only [putC]; rw [if_neg (by simp [h]), if_neg h2, if_pos h4])
   ·have h4 : ¬ 1000 < (zo cmpC ⟨a, v, d, b⟩ c).length := by simpa using h4
    have hr : putC f c ⟨a, v, d, b⟩ = ((f, zo cmpC ⟨a, v, d, b⟩ c), 0) := by simp only [putC]; rw [if_neg (by simp [h]), if_neg h2, if_neg h4]
    rw [hr] at hq
    refine ⟨f, ⟨by simp [za], by omega⟩, ⟨(), trivial⟩, fun _ _ => ?_⟩
    refine RetR.outs [4, 3] rfl rfl (.inl hq) (fun _ => ⟨?_, ?_⟩) ?_ ?_ rfl
    ·simp [resV, new2, new1, new0, zq, zD]
    ·simp only [List.mem_cons, List.not_mem_nil, or_false, forall_eq_or_imp, forall_eq]
     exact ⟨Zg (za _ _ _), Ze (za _ _ _)⟩
    ·simp [resV, exp2, exp1, exp0, zq, ren0, eqA2, eqL1]
    ·exact ⟨⟨rfl, rfl, za _ _ _⟩, ⟨rfl, rfl, za _ _ _⟩, trivial⟩
end Go.Proofs.Tryz
end

/- Tables: what was put last is found, all else stays, and the order of different keys does not matter. -/
section
namespace Go.Nov
theorem JM : ∀ s t : List UInt8, Op.bytesLess s t = true ∨ s = t ∨ Op.bytesLess t s = true
 | [], [] => .inr (.inl rfl)
 | [], _ :: _ => .inl rfl
 | _ :: _, [] => .inr (.inr rfl)
 | a :: s, b :: t => by
  simp only [Op.bytesLess, Bool.or_eq_true, Bool.and_eq_true, decide_eq_true_eq, beq_iff_eq]
  by_cases h : a = b
  ·subst h
   rcases JM s t with g | g | g
   ·exact .inl (.inr ⟨rfl, g⟩)
   ·exact .inr (.inl (by rw [g]))
   ·exact .inr (.inr (.inr ⟨rfl, g⟩))
  ·rcases UInt8.lt_or_lt_of_ne h with g | g
   ·exact .inl (.inl g)
   ·exact .inr (.inr (.inl g))
structure OrdT {α : Type} (c : α → α → Int) : Prop extends OrdK c where
 irr : ∀ a, c a a = 0
 tot : ∀ a b, c a b < 0 ∨ c a b = 0 ∨ c b a < 0
 sym : ∀ a b, c a b = 0 → c b a = 0
 eqt : ∀ a b d, c a b = 0 → c b d = 0 → c a d = 0
 eq2 : ∀ a b d, c a b = 0 → c b d < 0 → c a d < 0
theorem zag : OrdT cmpF where
 toOrdK := ue
 irr a := by rw [vM]; exact ⟨rfl, rfl⟩
 tot a b := by
  rw [xc, vM, xc]
  rcases JM a.name b.name with h | h | h
  ·exact .inl (.inl h)
  ·rcases Int.lt_trichotomy a.date b.date with g | g | g
   ·exact .inl (.inr ⟨h, g⟩)
   ·exact .inr (.inl ⟨h, g⟩)
   ·exact .inr (.inr (.inr ⟨h.symm, g⟩))
  ·exact .inr (.inr (.inl h))
 sym a b h := by rw [vM] at h ⊢; exact ⟨h.1.symm, h.2.symm⟩
 eqt a b d h g := by rw [vM] at h g ⊢; exact ⟨h.1.trans g.1, h.2.trans g.2⟩
 eq2 a b d h g := by rw [vM] at h; rw [xc] at g ⊢; rw [h.1, h.2]; exact g
theorem za5 : OrdT cmpC where
 toOrdK := uB
 irr a := by rw [ki]; exact ⟨rfl, rfl, rfl⟩
 tot a b := by
  rw [y9, ki, y9]
  rcases JM a.zb b.zb with h | h | h
  ·exact .inl (.inl h)
  ·rcases JM a.name b.name with k | k | k
   ·exact .inl (.inr ⟨h, .inl k⟩)
   ·rcases Int.lt_trichotomy a.date b.date with g | g | g
    ·exact .inl (.inr ⟨h, .inr ⟨k, g⟩⟩)
    ·exact .inr (.inl ⟨h, k, g⟩)
    ·exact .inr (.inr (.inr ⟨h.symm, .inr ⟨k.symm, g⟩⟩))
   ·exact .inr (.inr (.inr ⟨h.symm, .inl k⟩))
  ·exact .inr (.inr (.inl h))
 sym a b h := by rw [ki] at h ⊢; exact ⟨h.1.symm, h.2.1.symm, h.2.2.symm⟩
 eqt a b d h g := by rw [ki] at h g ⊢; exact ⟨h.1.trans g.1, h.2.1.trans g.2.1, h.2.2.trans g.2.2⟩
 eq2 a b d h g := by rw [ki] at h; rw [y9] at g ⊢; rw [h.1, h.2.1, h.2.2]; exact g
section
variable {α : Type} {c : α → α → Int} {z x y : α} (hk : OrdT c)
theorem wE {w : α} : ∀ {l : List α}, w ∈ zo c x l → w = x ∨ w ∈ l
 | [], h => by simp [zo] at h; exact .inl h
 | o :: l, h => by
  unfold zo at h
  split at h
  ·rcases List.mem_cons.1 h with rfl | h
   ·exact .inr (by simp)
   ·exact (wE h).imp id fun g => by simp [g]
  ·split at h
   ·rcases List.mem_cons.1 h with rfl | h
    ·exact .inl rfl
    ·exact .inr (by simp [h])
   ·rcases List.mem_cons.1 h with rfl | h
    ·exact .inl rfl
    ·exact .inr h
include hk
theorem zfs {a b : α} (h : ¬ c a b < 0) (g : c a b ≠ 0) : c b a < 0 := by
 rcases hk.tot a b with k | k | k
 ·exact absurd k h
 ·exact absurd k g
 ·exact k
theorem xC : ∀ {l : List α}, l.Pairwise (fun a b => c a b < 0) → (zo c x l).Pairwise fun a b => c a b < 0
 | [], _ => by simp [zo]
 | o :: l, h => by
  obtain ⟨h1, h2⟩ := List.pairwise_cons.1 h
  unfold zo
  split
  ·rename_i g
   refine List.pairwise_cons.2 ⟨fun w hw => ?_, xC h2⟩
   rcases wE hw with rfl | hw
   ·exact g
   ·exact h1 w hw
  ·rename_i g
   split
   ·rename_i k
    exact List.pairwise_cons.2 ⟨fun w hw => hk.eq2 _ _ _ (hk.sym _ _ k) (h1 w hw), h2⟩
   ·rename_i k
    have := zfs hk g k
    refine List.pairwise_cons.2 ⟨fun w hw => ?_, h⟩
    rcases List.mem_cons.1 hw with rfl | hw
    ·exact this
    ·exact hk.lt _ _ _ this (h1 w hw)
theorem WK : ∀ {l : List α}, l.Pairwise (fun a b => c a b < 0) → ordB c z l = true := fun {l} h => by
 refine kG fun j hj => ?_
 have := List.pairwise_iff_getElem.1 h j (j + 1) (by omega) hj (by omega)
 simpa [List.getD, List.getElem?_eq_getElem (show j < l.length by omega), List.getElem?_eq_getElem hj] using this
end
theorem ZE {f : List Fx} {c : List Ch} {x : Fx} (h : errE f c = 0) (hx : okF x = true) (hl : (zo cmpF x f).length ≤ 1000) : errE (zo cmpF x f) c = 0 := by
 obtain ⟨h1, h2, h3, h4, h5⟩ := kh.1 h
 refine kh.2 ⟨by omega, ?_, h3, WK zag (xC zag (vX ue h4)), h5⟩
 rw [List.all_eq_true] at h2 ⊢
 intro w hw
 rcases wE hw with rfl | hw
 ·exact hx
 ·exact h2 w hw
theorem uQ {f : List Fx} {c : List Ch} {x : Ch} (h : errE f c = 0) (hx : okC x = true) (hl : (zo cmpC x c).length ≤ 1000) : errE f (zo cmpC x c) = 0 := by
 obtain ⟨h1, h2, h3, h4, h5⟩ := kh.1 h
 refine kh.2 ⟨by omega, h2, ?_, h4, WK za5 (xC za5 (vX uB h5))⟩
 rw [List.all_eq_true] at h3 ⊢
 intro w hw
 rcases wE hw with rfl | hw
 ·exact hx
 ·exact h3 w hw
theorem XC {f : List Fx} {c : List Ch} {x : Fx} (h : (putF f c x).2 = 0) : errE f c = 0 ∧ okF x = true ∧ (zo cmpF x f).length ≤ 1000 ∧ putF f c x = ((zo cmpF x f, c), 0) := by
 unfold putF at h ⊢
 split at h
 ·rename_i g; exact absurd h g
 rename_i g1
 rw [if_neg g1]
 split at h
 ·cases h
 rename_i g2
 rw [if_neg g2]
 split at h
 ·rename_i g; exact absurd h g
 rename_i g3
 rw [if_neg g3]
 split at h
 ·cases h
 rename_i g4
 rw [if_neg g4]
 refine ⟨Classical.not_not.1 g1, ?_, by omega, rfl⟩
 unfold okF
 have : (zu x.name && dayB x.date) = true := by simpa using g2
 rw [this, Classical.not_not.1 g3]; rfl
theorem X7 {f : List Fx} {c : List Ch} {x : Ch} (h : (putC f c x).2 = 0) : errE f c = 0 ∧ okC x = true ∧ (zo cmpC x c).length ≤ 1000 ∧ putC f c x = ((f, zo cmpC x c), 0) := by
 unfold putC at h ⊢
 split at h
 ·rename_i g; exact absurd h g
 rename_i g1
 rw [if_neg g1]
 split at h
 ·cases h
 rename_i g2
 rw [if_neg g2]
 split at h
 ·cases h
 rename_i g4
 rw [if_neg g4]
 exact ⟨Classical.not_not.1 g1, by simpa using g2, by omega, rfl⟩
end Go.Nov
end

/- Two puts. -/
section
namespace Go.Nov
theorem v5 {α : Type} {c : α → α → Int} {x : α} : ∀ l : List α, (zo c x l).length ≤ l.length + 1
 | [] => by simp [zo]
 | o :: l => by
  unfold zo
  split
  ·have := v5 (c := c) (x := x) l
   simp only [List.length_cons]; omega
  ·split
   ·simp
   ·simp
theorem Xj {f : List Fx} {c : List Ch} {x : Fx} (h : errE f c = 0) (hx : okF x = true) (hl : (zo cmpF x f).length ≤ 1000) : putF f c x = ((zo cmpF x f, c), 0) := by
 unfold okF at hx
 simp only [Bool.and_eq_true, decide_eq_true_eq] at hx
 unfold putF
 rw [if_neg (by rw [h]; simp), if_neg (by rw [hx.1.1, hx.1.2]; simp), if_neg (by rw [hx.2]; simp), if_neg (by omega)]
end Go.Nov
end

/- The store's state says what the log says. -/
section
namespace Go.Nov
open Go.Sx
def fixS (t : Int) (a y : Ev) : Ev := if y.target = t ∧ y.kind = 3 then { a with value := y.value } else if y.target = t ∧ y.kind = 4 then { a with first := y.first } else a
def jC (l : List Ev) (x : Ev) : Ev := l.foldl (fixS x.id) x
def latF (l : List Ev) (i : Nat) : Ev := if (l.getD i Ev.nil).fact && !zY l ((i : Int) + 1) then jC l (l.getD i Ev.nil) else Ev.nil
structure Inv (l : List Ev) (s : SS) : Prop where
 evs : s.evs = l
 ok : s.ok
 lat : ∀ i, i < l.length → s.lat.getD i Ev.nil = latF l i
 ids : ∀ i, i < l.length → (l.getD i Ev.nil).id = (i : Int) + 1
 val : ∀ i, i < l.length → (l.getD i Ev.nil).valid = true
 side : ∀ i, i < l.length → ((s.lat.getD i Ev.nil).kind = 1 → (s.lat.getD i Ev.nil).first = false) ∧ ((s.lat.getD i Ev.nil).kind = 2 → (s.lat.getD i Ev.nil).value = [])
theorem zbr (t : Int) (a y : Ev) : (fixS t a y).key = a.key ∧ (fixS t a y).kind = a.kind := by
 unfold fixS
 split
 ·exact ⟨rfl, rfl⟩
 ·split <;> exact ⟨rfl, rfl⟩
theorem u7 (t : Int) : ∀ (l : List Ev) (a : Ev), (l.foldl (fixS t) a).key = a.key ∧ (l.foldl (fixS t) a).kind = a.kind
 | [], a => ⟨rfl, rfl⟩
 | y :: l, a => by
  simp only [List.foldl_cons]
  rw [(u7 t l _).1, (u7 t l _).2]
  exact zbr t a y
theorem jS (l : List Ev) (x : Ev) : (jC l x).key = x.key ∧ (jC l x).kind = x.kind := u7 _ l x
theorem jx {e : Ev} : e.fact = true ↔ e.kind = 1 ∨ e.kind = 2 := by simp [Ev.fact]
theorem wg {e : Ev} (hv : e.valid = true) : e.fact = true ↔ ¬ 0 < e.target := by
 constructor
 ·intro hf
  unfold Ev.valid at hv
  rcases jx.1 hf with h | h
  ·rw [if_pos h] at hv
   simp only [Bool.and_eq_true, decide_eq_true_eq] at hv
   omega
  ·rw [if_neg (by omega), if_pos h] at hv
   simp only [Bool.and_eq_true, decide_eq_true_eq] at hv
   omega
 ·intro ht
  cases hf : e.fact with
  | true => rfl
  | false => have := Qm hv hf; omega
theorem QR {e : Ev} (hv : e.valid = true) : e.target < e.id := by
 unfold Ev.valid at hv
 simp only [Bool.and_eq_true, inB, decide_eq_true_eq] at hv
 obtain ⟨⟨⟨h1, h2⟩, h3⟩, h4⟩ := hv
 split at h4
 ·simp only [Bool.and_eq_true, decide_eq_true_eq] at h4; omega
 ·split at h4
  ·simp only [Bool.and_eq_true, decide_eq_true_eq] at h4; omega
  ·simp only [Bool.and_eq_true, decide_eq_true_eq] at h4; omega
theorem um {l : List Ev} {i : Nat} : (latF l i).kind = 0 ↔ ((l.getD i Ev.nil).fact = false ∨ zY l ((i : Int) + 1) = true) := by
 unfold latF
 cases hf : (l.getD i Ev.nil).fact with
 | false => simp
 | true =>
  cases hc : zY l ((i : Int) + 1) with
  | true => simp
  | false =>
   simp only [Bool.not_false, Bool.and_true, if_true, (jS _ _).2]
   have := jx.1 hf
   constructor
   ·intro g; omega
   ·rintro (g | g) <;> cases g
theorem xf {l : List Ev} {i : Nat} (h : (latF l i).kind ≠ 0) : latF l i = jC l (l.getD i Ev.nil) ∧ (l.getD i Ev.nil).fact = true ∧ zY l ((i : Int) + 1) = false := by
 have h' := fun g => h (um.2 g)
 have h1 : (l.getD i Ev.nil).fact = true := by
  cases hf : (l.getD i Ev.nil).fact with
  | true => rfl
  | false => exact absurd (.inl hf) h'
 have h2 : zY l ((i : Int) + 1) = false := by
  cases hf : zY l ((i : Int) + 1) with
  | false => rfl
  | true => exact absurd (.inr hf) h'
 refine ⟨?_, h1, h2⟩
 unfold latF
 rw [h1, h2]; rfl
theorem kE {e : Ev} (hv : e.valid = true) (hf : e.fact = false) : e.kind = 3 ∨ e.kind = 4 ∨ e.kind = 5 := by
 have hf : ¬ e.kind = 1 ∧ ¬ e.kind = 2 := by simpa [Ev.fact] using hf
 unfold Ev.valid at hv
 rw [if_neg hf.1, if_neg hf.2] at hv
 by_cases h3 : e.kind = 3
 ·exact .inl h3
 ·by_cases h4 : e.kind = 4
  ·exact .inr (.inl h4)
  ·rw [if_neg h3, if_neg h4] at hv
   simp only [Bool.and_eq_true, decide_eq_true_eq] at hv
   exact .inr (.inr hv.2.2.1.1)
theorem zfl {l : List Ev} {s : SS} (I : Inv l s) (e : Ev) : s.errA e = accR l e := by
 have hlen := I.ok.len
 rw [I.evs] at hlen
 unfold SS.errA accR
 rw [I.evs]
 by_cases h1 : e.valid = false ∨ e.id ≠ l.length + 1
 ·rw [if_pos h1, if_pos h1]
 rw [if_neg h1, if_neg h1]
 by_cases h2 : 0 < l.length ∧ e.entry < (l.getD (l.length - 1) Ev.nil).entry
 ·rw [if_pos h2, if_pos h2]
 rw [if_neg h2, if_neg h2]
 by_cases h3 : 1000 ≤ l.length
 ·rw [if_pos h3, if_pos h3]
 rw [if_neg h3, if_neg h3]
 have hv : e.valid = true := by
  cases hv : e.valid
  ·exact absurd (.inl hv) h1
  ·rfl
 by_cases ht : 0 < e.target
 ·have hf : e.fact = false := by
   cases hf : e.fact with
   | false => rfl
   | true => exact absurd ht ((wg hv).1 hf)
  rw [if_pos ht, if_pos hf]
  unfold SS.errC
  by_cases hlt : (l.length : Int) < e.target
  ·rw [if_pos (.inl (by rw [hlen]; exact hlt)), if_pos (.inl hlt)]
  ·have hi : e.target.toNat - 1 < l.length := by omega
   have hx : s.fact e = latF l (e.target.toNat - 1) := I.lat _ hi
   have hc : ((e.target.toNat - 1 : Nat) : Int) + 1 = e.target := by omega
   have hk := um (l := l) (i := e.target.toNat - 1)
   rw [hc] at hk
   by_cases h6 : (s.fact e).kind = 0
   ·rw [if_pos (.inr h6)]
    rw [hx] at h6
    rcases hk.1 h6 with g | g
    ·rw [if_pos (.inr (.inl g))]
    ·rw [if_pos (.inr (.inr g))]
   ·have h6' := h6
    rw [hx] at h6'
    obtain ⟨q1, q2, q3⟩ := xf h6'
    rw [hc] at q3
    have nA : ¬ ((s.lat.length : Int) < e.target ∨ (s.fact e).kind = 0) := by
     rintro (g | g)
     ·exact hlt (by rw [← hlen]; exact g)
     ·exact h6 g
    have nB : ¬ ((l.length : Int) < e.target ∨ (l.getD (e.target.toNat - 1) Ev.nil).fact = false ∨ zY l e.target = true) := by
     rintro (g | g | g)
     ·exact hlt g
     ·rw [q2] at g; exact absurd g (by decide)
     ·rw [q3] at g; exact absurd g (by decide)
    rw [if_neg nA, if_neg nB]
    have hkk : (s.fact e).kind = (l.getD (e.target.toNat - 1) Ev.nil).kind := by rw [hx, q1, (jS _ _).2]
    rw [hkk]
    have hfk := jx.1 q2
    generalize (l.getD (e.target.toNat - 1) Ev.nil).kind = k at hfk
    clear hkk q1 q2 q3 hk hx h6 h6' hc nA nB
    rcases kE hv hf with g | g | g <;> rcases hfk with hfk | hfk <;> subst hfk <;> rw [g] <;> decide
 ·have hf : e.fact = true := (wg hv).2 ht
  have nf : ¬ e.fact = false := by rw [hf]; decide
  rw [if_neg ht, if_neg nf]
  have : zt s.lat e.key = wJ l e l.length := by
   rw [Bool.eq_iff_iff, uA]
   unfold wJ
   rw [List.any_eq_true]
   constructor
   ·rintro ⟨j, hj, h1, h2⟩
    rw [hlen] at hj
    rw [I.lat j hj] at h1 h2
    obtain ⟨q1, q2, q3⟩ := xf h1
    rw [q1, (jS _ _).1] at h2
    refine ⟨j, List.mem_range.2 hj, ?_⟩
    rw [q3]
    simp only [Ev.key, List.cons.injEq, Sum.inl.injEq, Sum.inr.injEq, and_true] at h2
    simp [yl, h2.1, h2.2.1, h2.2.2.1, h2.2.2.2, -List.getD_eq_getElem?_getD]
   ·rintro ⟨j, hj, h1⟩
    have hj := List.mem_range.1 hj
    simp only [yl, Bool.and_eq_true, decide_eq_true_eq, Bool.not_eq_true'] at h1
    obtain ⟨⟨⟨⟨g1, g2⟩, g3⟩, g4⟩, g5⟩ := h1
    have hfj : (l.getD j Ev.nil).fact = true := jx.2 (by rw [g1]; exact jx.1 hf)
    have e1 : latF l j = jC l (l.getD j Ev.nil) := by unfold latF; rw [hfj, g5]; rfl
    refine ⟨j, by omega, ?_⟩
    rw [I.lat j hj, e1, (jS _ _).1, (jS _ _).2]
    refine ⟨?_, ?_⟩
    ·rcases jx.1 hfj with h | h <;> omega
    ·simp only [Ev.key, g1, g2, g3, g4]
  rw [this]
theorem yC {l : List Ev} {e : Ev} {t : Int} : zY (l ++ [e]) t = (zY l t || (decide (e.kind = 5) && decide (e.target = t))) := by
 simp [zY]
theorem xh {l : List Ev} {e x : Ev} : jC (l ++ [e]) x = fixS x.id (jC l x) e := by
 simp [jC, List.foldl_append]
theorem vD {l : List Ev} {e : Ev} {i : Nat} (h : i < l.length) : (l ++ [e]).getD i Ev.nil = l.getD i Ev.nil := by
 rw [j2 (by omega), if_pos h]
theorem xm {l : List Ev} {e : Ev} : (l ++ [e]).getD l.length Ev.nil = e := by
 rw [j2 (by omega), if_neg (by omega)]
theorem Qu {t : Int} : ∀ {l : List Ev} {a : Ev}, (∀ y ∈ l, y.target ≠ t) → l.foldl (fixS t) a = a
 | [], a, _ => rfl
 | y :: l, a, h => by
  simp only [List.foldl_cons]
  have : fixS t a y = a := by
   unfold fixS
   rw [if_neg (fun g => h y (by simp) g.1), if_neg (fun g => h y (by simp) g.1)]
  rw [this]
  exact Qu fun z hz => h z (by simp [hz])
theorem KB {l : List Ev} {s : SS} (I : Inv l s) : ∀ y ∈ l, y.target < (l.length : Int) := by
 intro y hy
 obtain ⟨j, hj, rfl⟩ := List.mem_iff_getElem.1 hy
 have h1 := I.ids j hj
 have h2 := QR (I.val j hj)
 rw [zK hj] at h1 h2
 omega
theorem Jb {t : Int} {a y : Ev} (h : y.target ≠ t) : fixS t a y = a := by
 unfold fixS
 rw [if_neg (fun g => h g.1), if_neg (fun g => h g.1)]
theorem k8 {e : Ev} (hv : e.valid = true) : (e.kind = 1 ∨ e.kind = 3 → e.first = false) ∧ (e.kind = 2 ∨ e.kind = 4 → e.value = []) := by
 unfold Ev.valid at hv
 simp only [Bool.and_eq_true] at hv
 have hv := hv.2
 constructor
 ·rintro (g | g)
  ·rw [if_pos g] at hv
   simp only [Bool.and_eq_true, Bool.not_eq_true'] at hv
   exact hv.2
  ·rw [if_neg (by omega), if_neg (by omega)] at hv
   simp only [Bool.and_eq_true] at hv
   have hv := hv.2
   rw [if_pos g] at hv
   simp only [Bool.and_eq_true, Bool.not_eq_true'] at hv
   exact hv.2
 ·rintro (g | g)
  ·rw [if_neg (by omega), if_pos g] at hv
   simp only [Bool.and_eq_true, decide_eq_true_eq] at hv
   exact hv.2
  ·rw [if_neg (by omega), if_neg (by omega)] at hv
   simp only [Bool.and_eq_true] at hv
   have hv := hv.2
   rw [if_neg (by omega), if_pos g] at hv
   exact of_decide_eq_true hv
theorem zd0 {l : List Ev} {s : SS} (I : Inv l s) {e : Ev} (h : s.errA e = 0) : Inv (l ++ [e]) (s.add e) := by
 have hlen := I.ok.len
 rw [I.evs] at hlen
 have h0 := h
 unfold SS.errA at h
 rw [I.evs] at h
 split at h
 ·cases h
 rename_i h1
 split at h
 ·cases h
 split at h
 ·cases h
 have hv : e.valid = true := by
  cases hv : e.valid
  ·exact absurd (.inl hv) h1
  ·rfl
 have hid : e.id = l.length + 1 := Decidable.byContradiction fun g => h1 (.inr g)
 have hevs : (s.add e).evs = l ++ [e] := by rw [(J8 h0).1, I.evs]
 have htl := QR hv
 refine ⟨hevs, V7 I.ok e, fun i hi => ?_, fun i hi => ?_, fun i hi => ?_, fun i hi => ?_⟩
 ·simp only [List.length_append, List.length_cons, List.length_nil] at hi
  unfold SS.add
  rw [if_neg (by simpa using h0)]
  split at h
  ·rename_i ht
   rw [if_pos ht]
   have hf : e.fact = false := by
    cases hf : e.fact with
    | false => rfl
    | true => exact absurd ht ((wg hv).1 hf)
   have hcl := (Zh I.ok ht).2.1
   simp only
   rw [j2 (by omega), hcl, hlen]
   by_cases hil : i < l.length
   ·rw [if_pos hil]
    unfold SS.cor
    rw [if_pos h]
    simp only
    unfold SS.errC at h
    split at h
    ·cases h
    rename_i h6
    rw [not_or] at h6
    have hit : e.target.toNat - 1 < l.length := by omega
    rw [jd (by omega)]
    have hx : s.fact e = latF l (e.target.toNat - 1) := I.lat _ hit
    have hk := h6.2
    rw [hx] at hk
    obtain ⟨q1, q2, q3⟩ := xf hk
    by_cases hie : i = e.target.toNat - 1
    ·subst hie
     rw [if_pos rfl]
     have hc : ((e.target.toNat - 1 : Nat) : Int) + 1 = e.target := by omega
     rw [hc] at q3
     unfold latF SS.fixed
     rw [vD hit, q2, hc, yC, q3, xh, hx, q1]
     have hidx := I.ids _ hit
     by_cases h5 : e.kind = 5
     ·simp [h5]
     ·have : (e.kind = 3) ∨ (e.kind = 4) := by
       rcases kE hv hf with g | g | g
       ·exact .inl g
       ·exact .inr g
       ·exact absurd g h5
      rw [if_neg h5]
      simp only [h5, decide_false, Bool.false_and, Bool.or_false, Bool.not_false, Bool.and_true, if_true]
      rw [if_neg h5] at h
      have hkk : (s.fact e).kind = (l.getD (e.target.toNat - 1) Ev.nil).kind := by rw [hx, q1, (jS _ _).2]
      have hsd := I.side _ hit
      rw [show s.lat.getD (e.target.toNat - 1) Ev.nil = s.fact e from rfl, hkk] at hsd
      rw [hkk] at h
      rw [hx, q1] at hsd
      have hvs := k8 hv
      rw [hidx, hc]
      have hfk := jx.1 q2
      generalize jC l (l.getD (e.target.toNat - 1) Ev.nil) = x at hsd ⊢
      generalize (l.getD (e.target.toNat - 1) Ev.nil).kind = k at hsd h hfk
      unfold fixS
      rcases this with g | g
      ·rw [if_pos ⟨rfl, g⟩]
       have hk1 : k = 1 := by
        rcases hfk with rfl | rfl
        ·rfl
        ·rw [g] at h; exact absurd h (by decide)
       rw [hvs.1 (.inr g), ← hsd.1 hk1]
      ·have n3 : ¬ (e.target = e.target ∧ e.kind = 3) := fun q => by omega
       rw [if_neg n3, if_pos ⟨rfl, g⟩]
       have hk2 : k = 2 := by
        rcases hfk with rfl | rfl
        ·rw [g] at h; exact absurd h (by decide)
        ·rfl
       rw [hvs.2 (.inr g), ← hsd.2 hk2]
    ·rw [if_neg hie, I.lat i hil]
     unfold latF
     rw [vD hil, yC, xh]
     have hne : e.target ≠ (i : Int) + 1 := by omega
     have hidx := I.ids i hil
     simp only [hne, decide_false, Bool.and_false, Bool.or_false]
     rw [hidx, Jb hne]
   ·obtain rfl : i = l.length := by omega
    rw [if_neg hil]
    unfold latF
    rw [xm, hf]; rfl
  ·rename_i ht
   rw [if_neg ht]
   have hf : e.fact = true := (wg hv).2 ht
   simp only
   rw [j2 (by omega), hlen]
   by_cases hil : i < l.length
   ·rw [if_pos hil, I.lat i hil]
    unfold latF
    rw [vD hil, yC, xh]
    have hne : e.target ≠ (i : Int) + 1 := by omega
    have hidx := I.ids i hil
    simp only [hne, decide_false, Bool.and_false, Bool.or_false]
    rw [hidx, Jb hne]
   ·obtain rfl : i = l.length := by omega
    rw [if_neg hil]
    unfold latF
    have htg := KB I
    have hc : zY l ((l.length : Int) + 1) = false := by
     unfold zY
     rw [List.any_eq_false]
     intro y hy
     have := htg y hy
     simp only [Bool.and_eq_true, decide_eq_true_eq, not_and]
     intro _; omega
    rw [xm, hf, yC, hc]
    have : e.target ≠ (l.length : Int) + 1 := by omega
    simp only [this, decide_false, Bool.and_false, Bool.or_false, Bool.not_false, Bool.and_true, if_true]
    rw [xh]
    unfold jC
    rw [Qu (fun y hy => by have := htg y hy; omega)]
    unfold fixS
    rw [hid, if_neg (fun g => this g.1), if_neg (fun g => this g.1)]
 ·simp only [List.length_append, List.length_cons, List.length_nil] at hi
  by_cases hil : i < l.length
  ·rw [vD hil]; exact I.ids i hil
  ·obtain rfl : i = l.length := by omega
   rw [xm, hid]
 ·simp only [List.length_append, List.length_cons, List.length_nil] at hi
  by_cases hil : i < l.length
  ·rw [vD hil]; exact I.val i hil
  ·obtain rfl : i = l.length := by omega
   rw [xm, hv]
 ·simp only [List.length_append, List.length_cons, List.length_nil] at hi
  have nil : (Ev.nil.kind = 1 → Ev.nil.first = false) ∧ (Ev.nil.kind = 2 → Ev.nil.value = []) := ⟨fun _ => rfl, fun _ => rfl⟩
  unfold SS.add
  rw [if_neg (by simpa using h0)]
  split at h
  ·rename_i ht
   rw [if_pos ht]
   have hcl := (Zh I.ok ht).2.1
   simp only
   rw [j2 (by omega), hcl, hlen]
   by_cases hil : i < l.length
   ·rw [if_pos hil]
    unfold SS.cor
    rw [if_pos h]
    simp only
    unfold SS.errC at h
    split at h
    ·cases h
    rename_i h6
    rw [not_or] at h6
    have hit : e.target.toNat - 1 < l.length := by omega
    rw [jd (by omega)]
    by_cases hie : i = e.target.toNat - 1
    ·rw [if_pos hie]
     unfold SS.fixed
     by_cases h5 : e.kind = 5
     ·rw [if_pos h5]; exact nil
     ·rw [if_neg h5] at h ⊢
      have hvs := k8 hv
      have hf : e.fact = false := by
       cases hf : e.fact with
       | false => rfl
       | true => exact absurd ht ((wg hv).1 hf)
      simp only
      rcases kE hv hf with g | g | g
      ·refine ⟨fun _ => hvs.1 (.inr g), fun q => ?_⟩
       rw [g, q] at h; exact absurd h (by decide)
      ·refine ⟨fun q => ?_, fun _ => hvs.2 (.inr g)⟩
       rw [g, q] at h; exact absurd h (by decide)
      ·exact absurd g h5
    ·rw [if_neg hie]; exact I.side i hil
   ·rw [if_neg hil]; exact nil
  ·rename_i ht
   rw [if_neg ht]
   simp only
   rw [j2 (by omega), hlen]
   by_cases hil : i < l.length
   ·rw [if_pos hil]; exact I.side i hil
   ·rw [if_neg hil]
    have hvs := k8 hv
    exact ⟨fun g => hvs.1 (.inl g), fun g => hvs.2 (.inl g)⟩
theorem inv0 : Inv [] ⟨[], []⟩ := ⟨rfl, VK, fun i h => by simp at h, fun i h => by simp at h, fun i h => by simp at h, fun i h => by simp at h⟩
theorem Vs : ∀ {r l : List Ev} {s : SS}, Inv l s → (match s.play r with
  | some t => Inv (l ++ r) t ∧ ∀ j, j < r.length → accR (l ++ r.take j) (r.getD j Ev.nil) = 0
  | none => ∃ j, j < r.length ∧ accR (l ++ r.take j) (r.getD j Ev.nil) ≠ 0)
 | [], l, s, I => by simp only [SS.play]; exact ⟨by simpa using I, fun j h => by simp at h⟩
 | e :: r, l, s, I => by
  simp only [SS.play]
  have ha := zfl I e
  by_cases g : s.errA e = 0
  ·rw [if_pos g]
   have h := Vs (r := r) (zd0 I g)
   have e1 : ∀ j, l ++ [e] ++ r.take j = l ++ (e :: r).take (j + 1) := fun j => by simp
   cases hp : (s.add e).play r with
   | none =>
    rw [hp] at h
    obtain ⟨j, h1, h2⟩ := h
    exact ⟨j + 1, by simpa using h1, by rw [← e1]; simpa using h2⟩
   | some t =>
    rw [hp] at h
    refine ⟨by simpa using h.1, fun j hj => ?_⟩
    cases j with
    | zero => simpa using ha.symm.trans g
    | succ j =>
     have := h.2 j (by simpa using hj)
     rw [e1] at this
     simpa using this
  ·rw [if_neg g]
   exact ⟨0, by simp, by simpa using fun q => g (ha.trans q)⟩
theorem jG {l : List Ev} : (SS.play ⟨[], []⟩ l).isSome = jb l ∧ ∀ t, SS.play ⟨[], []⟩ l = some t → Inv l t := by
 have h := Vs (r := l) inv0
 cases hp : SS.play ⟨[], []⟩ l with
 | none =>
  rw [hp] at h
  obtain ⟨j, h1, h2⟩ := h
  refine ⟨?_, fun t ht => by cases ht⟩
  symm
  unfold jb
  rw [Option.isSome_none, List.all_eq_false]
  exact ⟨j, List.mem_range.2 h1, by simpa using h2⟩
 | some t =>
  rw [hp] at h
  refine ⟨?_, fun t' ht => by cases ht; simpa using h.1⟩
  symm
  unfold jb
  rw [Option.isSome_some, List.all_eq_true]
  exact fun j hj => by simpa using h.2 j (List.mem_range.1 hj)
end Go.Nov
end

/- What is known from a log, plain. -/
section
namespace Go.Nov
open Go.Sx
abbrev EnvL := List Fx × List Ch
def wL (d : Option Int) (x : Ev) : Bool := match d with
 | none => true
 | some d => decide (x.date ≤ d)
def Ev.fx (x : Ev) : Fx := ⟨x.name, x.date, x.value⟩
def Ev.ch (x : Ev) : Ch := ⟨x.zb, x.name, x.date, x.first⟩
def zF (d : Option Int) (v : EnvL) (x : Ev) : EnvL × Int :=
 if (decide (x.kind = 0) || !wL d x) = true then (v, 0) else if x.kind = 1 then putF v.1 v.2 x.fx else putC v.1 v.2 x.ch
def zJ (d : Option Int) : List Ev → EnvL → EnvL × Int
 | [], v => (v, 0)
 | x :: r, v => if (zF d v x).2 ≠ 0 then (([], []), (zF d v x).2) else zJ d r (zF d v x).1
def cutE (l : List Ev) (entry : Int) : Nat := l.findIdx fun e => decide (entry < e.entry)
def zC (l : List Ev) (entry : Int) (d : Option Int) : EnvL × Int :=
 if (SS.play ⟨[], []⟩ l).isSome = false then (([], []), 8)
 else if entry < 0 ∨ 1125899906842624 < entry then (([], []), 2)
 else match SS.play ⟨[], []⟩ (l.take (cutE l entry)) with
  | some s => zJ d s.lat ([], [])
  | none => (([], []), 0)
theorem Vp : ∀ {a b : List Ev} {s : SS}, s.play (a ++ b) = (s.play a).bind fun t => t.play b
 | [], b, s => rfl
 | e :: a, b, s => by
  simp only [List.cons_append, SS.play]
  split
  ·exact Vp
  ·rfl
theorem xn {l : List Ev} {s : SS} (h : (s.play l).isSome = true) (n : Nat) : (s.play (l.take n)).isSome = true := by
 rw [← List.take_append_drop n l, Vp] at h
 cases hp : s.play (l.take n) with
 | some t => rfl
 | none => rw [hp] at h; cases h
theorem Zq {d : Option Int} {l : List Ev} {i : Nat} (h : i < l.length) (v : EnvL) : zJ d (l.drop i) v = if (zF d v (l.getD i Ev.nil)).2 ≠ 0 then (([], []), (zF d v (l.getD i Ev.nil)).2) else zJ d (l.drop (i + 1)) (zF d v (l.getD i Ev.nil)).1 := by
 rw [List.drop_eq_getElem_cons h, zK h]
 rfl
end Go.Nov
namespace Go.Nov
theorem bifO (x y : Bool) : (bif x then true else y) = (x || y) := by cases x <;> rfl
theorem bifA (x y : Bool) : (bif x then y else false) = (x && y) := by cases x <;> rfl
end Go.Nov
namespace Go.Nov
def xv (l : List Ev) (tm d : Int) : EnvL × Int := if (zC l tm (some d)).2 = 0 ∧ (d < 0 ∨ 99999 < d) then (([], []), 2) else zC l tm (some d)
def ja (l : List Ev) (id : Int) : List Int × Int :=
 if (SS.play ⟨[], []⟩ l).isSome = false then ([], 8) else if id < 1 ∨ (l.length : Int) < id then ([], 6)
 else (id :: (l.filter fun e => decide (e.target = id)).map Ev.id, 0)
def intS (l : List Int) : Go.Sx.AV := .sl l.length 1 fun j _ => .int .i64 (l.getD j 0)
end Go.Nov
namespace Go.Nov
def intG (l : List Int) : Nat → Nat → Go.Sx.AV := fun j _ => .int .i64 (l.getD j 0)
theorem Wx {l : List Int} {x : Int} {g : Nat → Nat → Go.Sx.AV} (hg : Go.Sx.eqG l.length 1 g (intG l)) : Go.Sx.eqG (l.length + 1) 1 (Go.Sx.appG l.length g (Go.Sx.zg (Go.Sx.zf 1 [.int .i64 x]) 0)) (intG (l ++ [x])) := by
 intro j p hj hp
 obtain rfl : p = 0 := by omega
 simp only [Go.Sx.appG, Go.Sx.zg, Go.Sx.zf]
 by_cases q : j < l.length
 ·rw [if_pos q, hg j 0 q (by omega)]
  simp only [intG, List.getD, List.getElem?_append_left q]
 ·rw [if_neg q]
  obtain rfl : j = l.length := by omega
  simp [intG, List.getD]
def idsT (l : List Ev) (id : Int) (n : Nat) : List Int := id :: ((l.take n).filter fun e => decide (e.target = id)).map Ev.id
theorem QD {l : List Ev} {id : Int} {i : Nat} (h : i < l.length) : idsT l id (i + 1) = if (l.getD i Ev.nil).target = id then idsT l id i ++ [(l.getD i Ev.nil).id] else idsT l id i := by
 unfold idsT
 rw [List.take_add_one, List.getElem?_eq_getElem h, zK h]
 simp only [Option.toList_some, List.filter_append, List.map_append, List.filter_cons, List.filter_nil]
 by_cases g : l[i].target = id
 ·simp [g]
 ·simp [g]
theorem W0 (l : List Ev) (id : Int) (n : Nat) : (idsT l id n).length ≤ n + 1 := by
 unfold idsT
 simp only [List.length_cons, List.length_map]
 have h1 := List.length_filter_le (fun e : Ev => decide (e.target = id)) (l.take n)
 have h2 := List.length_take_le n l
 omega
end Go.Nov
namespace Go.Nov
def lenE (v : EnvL) : Prop := v.1.length ≤ 1000 ∧ v.2.length ≤ 1000
theorem U7 {d : Option Int} {v : EnvL} {x : Ev} (h : lenE v) (h0 : (zF d v x).2 = 0) : lenE (zF d v x).1 := by
 unfold zF at h0 ⊢
 split
 ·exact h
 ·rename_i g
  rw [if_neg g] at h0
  split
  ·rename_i k
   rw [if_pos k] at h0
   obtain ⟨_, _, a3, a4⟩ := XC h0
   rw [a4]; exact ⟨a3, h.2⟩
  ·rename_i k
   rw [if_neg k] at h0
   obtain ⟨_, _, a3, a4⟩ := X7 h0
   rw [a4]; exact ⟨h.1, a3⟩
theorem Vo {d : Option Int} : ∀ {l : List Ev} {v : EnvL}, lenE v → lenE (zJ d l v).1
 | [], v, h => h
 | x :: l, v, h => by
  simp only [zJ]
  split
  ·exact ⟨Nat.zero_le _, Nat.zero_le _⟩
  ·rename_i g
   exact Vo (U7 h (by simpa using g))
theorem QC (l : List Ev) (tm : Int) (d : Option Int) : lenE (zC l tm d).1 := by
 unfold zC
 split
 ·exact ⟨Nat.zero_le _, Nat.zero_le _⟩
 ·split
  ·exact ⟨Nat.zero_le _, Nat.zero_le _⟩
  ·split
   ·exact Vo ⟨Nat.zero_le _, Nat.zero_le _⟩
   ·exact ⟨Nat.zero_le _, Nat.zero_le _⟩
end Go.Nov
end

/- The store: closures, the first event behind a time, frozen puts. -/
section
set_option maxRecDepth 100000
open Go Go.Sx Go.Proofs Go.Nov
namespace Go.Proofs.Tryz
attribute [local simp] eqKV eqA eqA0 eqH eqB eqL eqL0
noncomputable def K23 : List Go.Sx.Item := [.code (Tryz.f23.body.getD .skip)]
theorem Xz {f : List Fx} {c : List Ch} {z : Int} : LeA (exp2 [.arr f.length 3 (fxG f), .arr c.length 4 (chG c)] [] (.tup [.agg [.osl 0 3 0 f.length, .osl 1 4 0 c.length], .int .i64 z])) (.tup [envA f c, .int .i64 z]) := by
 refine qf ?_
 simp [exp2, exp1, exp0, zq, frz1, qw, ren0, eqA2, eqL1, envA, fxS, chS, qW]
theorem KZ {f : List Fx} {c : List Ch} {z : Int} : new2 [.arr f.length 3 (fxG f), .arr c.length 4 (chG c)] [] (.tup [.agg [.osl 0 3 0 f.length, .osl 1 4 0 c.length], .int .i64 z]) := by
 simp only [new2, List.mem_cons, List.not_mem_nil, or_false, forall_eq_or_imp, forall_eq, new1, new0]
 refine ⟨⟨fun _ => ?_, fun _ => ?_⟩, rfl⟩
 ·simp only [exp0, zq, frz1, qw, List.getElem?_cons_zero, if_true, uH]
  exact fun j o hj ho => kY _ _ _ ho
 ·simp only [exp0, zq, frz1, qw, List.getElem?_cons_succ, List.getElem?_cons_zero, if_true, uH]
  exact fun j o hj ho => kZ _ _ _ ho
def zbe : Ctr := ctrP true (fun p : (List Fx × List Ch) × Fx => [envA p.1.1 p.1.2, p.2.av]) (fun p => envP p.1 ∧ qn p.2) (fun p r => r = putF p.1.1 p.1.2 p.2) (fun _ (r : (List Fx × List Ch) × Int) => (.tup [envA r.1.1 r.1.2, .int .i64 r.2], []))
def zah : Ctr := ctrP true (fun p : (List Fx × List Ch) × Ch => [envA p.1.1 p.1.2, p.2.av]) (fun p => envP p.1 ∧ qj p.2) (fun p r => r = putC p.1.1 p.1.2 p.2) (fun _ (r : (List Fx × List Ch) × Int) => (.tup [envA r.1.1 r.1.2, .int .i64 r.2], []))
theorem XD : ze Tryz.prog 26 zbe := ze.frozen zdi (fun _ _ _ _ => KZ) (fun _ _ _ _ => Xz)
theorem Xf : ze Tryz.prog 27 zah := ze.frozen zck (fun _ _ _ _ => KZ) (fun _ _ _ _ => Xz)
theorem vP {f : List Fx} {c : List Ch} (h1 : f.length < 2 ^ 40) (h2 : c.length < 2 ^ 40) (h3 : ∀ x ∈ f, qn x) (h4 : ∀ x ∈ c, qj x) : envP (f, c) := by
 refine ⟨h1, h2, fun j hj => h3 _ ?_, fun j hj => h4 _ ?_⟩
 ·have : j < f.length := hj
  simp [List.getD, this]
 ·have : j < c.length := hj
  simp [List.getD, this]
theorem WQ {f : List Fx} {c : List Ch} (h : envP (f, c)) : (∀ x ∈ f, qn x) ∧ ∀ x ∈ c, qj x := by
 refine ⟨fun x hx => ?_, fun x hx => ?_⟩
 ·obtain ⟨j, hj, rfl⟩ := List.mem_iff_getElem.1 hx
  have := h.2.2.1 j hj
  simpa [List.getD, hj] using this
 ·obtain ⟨j, hj, rfl⟩ := List.mem_iff_getElem.1 hx
  have := h.2.2.2 j hj
  simpa [List.getD, hj] using this
theorem yH {f : List Fx} {c : List Ch} {x : Fx} (h : envP (f, c)) (hx : qn x) (hp : (putF f c x).2 = 0) : envP (putF f c x).1 := by
 obtain ⟨a1, a2, a3, a4⟩ := XC hp
 rw [a4]
 obtain ⟨m1, m2⟩ := WQ h
 refine vP (Nat.lt_of_le_of_lt a3 (by decide)) h.2.1 (fun y hy => ?_) m2
 rcases wE hy with rfl | g
 ·exact hx
 ·exact m1 _ g
theorem yb {f : List Fx} {c : List Ch} {x : Ch} (h : envP (f, c)) (hx : qj x) (hp : (putC f c x).2 = 0) : envP (putC f c x).1 := by
 obtain ⟨a1, a2, a3, a4⟩ := X7 hp
 rw [a4]
 obtain ⟨m1, m2⟩ := WQ h
 refine vP h.1 (Nat.lt_of_le_of_lt a3 (by decide)) m1 (fun y hy => ?_)
 rcases wE hy with rfl | g
 ·exact hx
 ·exact m2 _ g
def kv1C : Ctr := ctrP true (fun e : Ev => [e.av]) (fun _ => True) (fun e r => r = true) (fun _ (r : Bool) => (.bool r, []))
theorem zfa : ze Tryz.prog 15 kv1C := by
 refine zh (fn := Tryz.f15) (c := Tryz.f15.body.getD .skip) rfl rfl rfl fun e hp O w0 Q hq => ?_
 replace hq := hq _ rfl
 refine zc.run hmix zr [] 400 (T := .leaf (.ret [.bool true] [.box [.int .u8 e.kind, .int .i64 e.id, .int .i64 e.entry, .int .i64 e.target, .int .i64 e.date, .str e.zb, .str e.name, .str e.value, .bool e.first]])) (by kernel_rfl) ?_
 simp only [Tree.holds, zd]
 exact RetR.scal hq rfl rfl
def kp1C : Ctr := ctrT false false (fun p : Ev × Int => [p.1.av, .ptr 0 0]) (fun p => [.box [.int .i64 p.2]]) (fun _ => True) (fun p r => r = decide (p.1.date ≤ p.2)) (fun p (r : Bool) => (.bool r, [.box [.int .i64 p.2]]))
def kk1C : Ctr := ctrT false false (fun p : Ev × Int => [p.1.av, .ptr 0 0]) (fun p => [.box [.int .i64 p.2]]) (fun _ => True) (fun p r => r = decide (p.2 < p.1.entry)) (fun p (r : Bool) => (.bool r, [.box [.int .i64 p.2]]))
theorem zfn : ze Tryz.prog 16 kp1C := by
 refine jh (fn := Tryz.f16) (c := Tryz.f16.body.getD .skip) rfl rfl rfl (fun h => by cases h) fun p hp O w0 σ0 Q hl0 hq => ?_
 obtain ⟨e, d⟩ := p
 replace hq := hq _ rfl
 refine zc.run hmix zr [] 400 (T := .leaf (.ret [.bool (decide (Ev.date e ≤ d))] [.box [.int .i64 d], .box [.int .u8 e.kind, .int .i64 e.id, .int .i64 e.entry, .int .i64 e.target, .int .i64 e.date, .str e.zb, .str e.name, .str e.value, .bool e.first]])) (by kernel_rfl) ?_
 simp only [Tree.holds, zd]
 exact RetR.keep [0] rfl rfl (by show ∀ j, j < 1 → _; decide) rfl hq (by simp [resV, exp2, exp1, exp0, ren0, eqA2]) (by simp [expH, expB, exp1, exp0, ren0]) rfl
theorem zfm : ze Tryz.prog 24 kk1C := by
 refine jh (fn := Tryz.f24) (c := Tryz.f24.body.getD .skip) rfl rfl rfl (fun h => by cases h) fun p hp O w0 σ0 Q hl0 hq => ?_
 obtain ⟨e, d⟩ := p
 replace hq := hq _ rfl
 refine zc.run hmix zr [] 400 (T := .leaf (.ret [.bool (decide (d < Ev.entry e))] [.box [.int .i64 d], .box [.int .u8 e.kind, .int .i64 e.id, .int .i64 e.entry, .int .i64 e.target, .int .i64 e.date, .str e.zb, .str e.name, .str e.value, .bool e.first]])) (by kernel_rfl) ?_
 simp only [Tree.holds, zd]
 exact RetR.keep [0] rfl rfl (by show ∀ j, j < 1 → _; decide) rfl hq (by simp [resV, exp2, exp1, exp0, ren0, eqA2]) (by simp [expH, expB, exp1, exp0, ren0]) rfl
def SIe (l : List Ev) (i : Nat) : KV := [(0, evS l), (1, .fn 24 [] [.ptr 0 0]), (7, .int .i64 (l.length : Int)), (8, .int .i64 (i : Int))]
def ixEC : Ctr := ctrT false false (fun p : List Ev × Int => [evS p.1, .fn 24 [] [.ptr 0 0]]) (fun p => [.box [.int .i64 p.2]]) (fun p => p.1.length < 2 ^ 40) (fun p r => r = idxB (fun x => decide (p.2 < x.entry)) p.1) (fun p (r : Int) => (.int .i64 r, [.box [.int .i64 p.2]]))
noncomputable def GIe : Nat → Option Ctr := fun f => if f = 24 then some (kk1C) else none
theorem zam : ∀ g c, GIe g = some c → ze Tryz.prog g c := okIf zfm (zn)
theorem Ud : ze Tryz.prog 23 ixEC := by
 refine jh (fn := Tryz.f23) (c := Tryz.f23.body.getD .skip) rfl rfl rfl (fun h => by cases h) fun p hl O w0 σ0 Q hl0 hq => ?_
 obtain ⟨l, x⟩ := p
 replace hq := hq _ rfl
 simp only at hq hl
 refine zc.run hmix zam [0, 1, 7, 8] 400 (T := .leaf (.loop (Prod.fst (lps K23 0)) (Prod.snd (lps K23 0)) [(0, .sl l.length 9 (evG l)), (1, .fn 24 [] [.ptr 0 0]), (7, .int .i64 l.length), (8, .int .i64 0)] [.box [.int .i64 x]])) (by kernel_rfl) ?_
 simp only [Tree.holds, zd]
 have fin : ∀ (i : Int) (h rest : Heap), i = idxB (fun y : Ev => decide (x < y.entry)) l → h = .box [.int .i64 x] :: rest → RetR ixEC 1 Q [.int .i64 i] h := by
  intro i h rest hi2 hh
  subst hh
  rw [← hi2] at hq
  exact RetR.keep [0] rfl (by simp) (by show ∀ j, j < 1 → _; decide) rfl hq (by simp [resV, exp2, exp1, exp0, ren0, eqA2]) (by simp [expH, expB, exp1, exp0, ren0]) rfl
 refine zc.loop (ι := {i : Nat // i ≤ l.length ∧ ∀ j, j < i → decide (x < (l.getD j Ev.nil).entry) = false}) (fun i => SIe l i.1) (fun _ => [.box [.int .i64 x]]) (fun i => l.length - i.1) ⟨0, Nat.zero_le _, fun j hj => by omega⟩ 0 ?_ ?_ (by kernel_rfl)
 ·exact ⟨by simp [SIe, evS, za], by simp, by kernel_rfl, Nat.le_refl _⟩
 ·rintro ⟨i, hil, hib⟩
  refine zc.run hmix zam [0, 1, 7, 8] 400 (T := .ite (decide ((↑i : Int) < l.length)) (.side ((0 : Int) ≤ i ∧ (↑i : Int) < l.length) (.ex (fun (x_1 : Ev × Int) => eqL [AV.agg [AV.int .u8 (Ev.kind (List.getD l (Int.toNat (↑i : Int)) Ev.nil)), AV.int .i64 (Ev.id (List.getD l (Int.toNat (↑i : Int)) Ev.nil)), AV.int .i64 (Ev.entry (List.getD l (Int.toNat (↑i : Int)) Ev.nil)), AV.int .i64 (Ev.target (List.getD l (Int.toNat (↑i : Int)) Ev.nil)), AV.int .i64 (Ev.date (List.getD l (Int.toNat (↑i : Int)) Ev.nil)), AV.str (Ev.zb (List.getD l (Int.toNat (↑i : Int)) Ev.nil)), AV.str (Ev.name (List.getD l (Int.toNat (↑i : Int)) Ev.nil)), AV.str (Ev.value (List.getD l (Int.toNat (↑i : Int)) Ev.nil)), AV.bool (Ev.first (List.getD l (Int.toNat (↑i : Int)) Ev.nil))], AV.ptr 0 0] [AV.agg [AV.int .u8 x_1.1.kind, AV.int .i64 x_1.1.id, AV.int .i64 x_1.1.entry, AV.int .i64 x_1.1.target, AV.int .i64 x_1.1.date, AV.str x_1.1.zb, AV.str x_1.1.name, AV.str x_1.1.value, AV.bool x_1.1.first], AV.ptr 0 0] ∧ eqH [.box [AV.int .i64 x]] [.box [AV.int .i64 x_1.2]] ∧ 1 = 1 ∧ True) fun n => .all (fun (r : Bool) => r = decide (n.2 < Ev.entry n.1)) fun n_1 => .ite n_1 (.leaf (.ret [.int .i64 i] [.box [.int .i64 n.2]])) (.side (inR .i64 ((↑i : Int) + (1 : Int))) (.leaf (.back 0 [(0, .sl l.length 9 (evG l)), (1, .fn 24 [] [.ptr 0 0]), (7, .int .i64 l.length), (8, .int .i64 ((↑i : Int) + (1 : Int)))] [.box [.int .i64 n.2]]))))) (.leaf (.ret [.int .i64 (-1 : Int)] [.box [.int .i64 x]]))) (by kernel_rfl) ?_
  simp only [Tree.holds, zd, inR, lo, hi, Int.toNat_natCast]
  refine ⟨fun hlt => ?_, fun hge => ?_⟩
  ·have hlt : i < l.length := by have := of_decide_eq_true hlt; omega
   refine ⟨by omega, fun _ => ⟨(l.getD i Ev.nil, x), ⟨by simp [Ev.av], by simp, trivial, trivial⟩, ⟨_, rfl⟩, ?_⟩⟩
   rintro _ rfl
   refine ⟨fun h => ?_, fun h => ⟨by omega, fun _ => ?_⟩⟩
   ·exact fin _ _ _ (yz hlt h hib).symm rfl
   ·rw [if_pos trivial]
    refine ⟨⟨i + 1, hlt, fun j hj => ?_⟩, by show l.length - (i + 1) < l.length - i; omega, by simp [SIe, evS, za], by simp, by kernel_rfl, Nat.le_refl _⟩
    rcases Nat.lt_or_ge j i with h1 | h1
    ·exact hib j h1
    ·have : j = i := by omega
     rw [this]; exact h
  ·have hge : i = l.length := by have := of_decide_eq_false hge; omega
   subst hge
   exact fin _ _ _ (v8 (p := fun y : Ev => decide (x < y.entry)) hib).symm rfl
end Go.Proofs.Tryz
end

/- The store: what is known. -/
section
set_option maxRecDepth 100000
open Go Go.Sx Go.Proofs Go.Nov
namespace Go.Proofs.Tryz
attribute [local simp] eqKV eqA eqA0 eqH eqB eqL eqL0
noncomputable def K14 : List Go.Sx.Item := [.code (Tryz.f14.body.getD .skip)]
theorem yD {l : List Ev} {n : Nat} (h : n ≤ l.length) : eqG n 9 (zg (evG l) 0) (evG (l.take n)) := by
 intro j o hj ho
 simp only [zg, evG, Nat.zero_add]
 congr 1
 simp only [List.getD]
 rw [List.getElem?_take, if_pos hj]
theorem Xw {l : List Ev} {tm : Int} : (if idxB (fun x : Ev => decide (tm < x.entry)) l < 0 then (l.length : Int) else idxB (fun x : Ev => decide (tm < x.entry)) l) = (cutE l tm : Int) ∧ cutE l tm ≤ l.length := by
 unfold idxB cutE
 have h := List.findIdx_le_length (xs := l) (p := fun e => decide (tm < e.entry))
 refine ⟨?_, h⟩
 split
 ·rw [if_neg (by omega)]
 ·rw [if_pos (by omega)]; omega
def jM (l : List Ev) : Prop := ∀ e ∈ l, z7 e
theorem Yg {l : List Ev} {i : Nat} {x : Ev} (h : jM l) (hx : z7 x) : jM (l.set i x) := fun e he => by
 rcases List.mem_or_eq_of_mem_set he with h1 | h1
 ·exact h e h1
 ·rw [h1]; exact hx
theorem YL {s : SS} {e : Ev} (h : jM s.lat) (he : z7 e) : jM (s.add e).lat := by
 have hn : z7 Ev.nil := ⟨by decide, by decide, by decide⟩
 have app : ∀ {l : List Ev} {x : Ev}, jM l → z7 x → jM (l ++ [x]) := fun {l x} hl hx y hy => by
  rcases List.mem_append.1 hy with g | g
  ·exact hl y g
  ·rw [List.mem_singleton.1 g]; exact hx
 unfold SS.add
 split
 ·exact h
 ·split
  ·refine app ?_ hn
   unfold SS.cor
   split
   ·refine Yg h ?_
    unfold SS.fixed
    split
    ·exact hn
    ·have := jU h (e.target.toNat - 1)
     exact ⟨this.1, this.2.1, he.2.2⟩
   ·exact h
  ·exact app h he
theorem xF : ∀ {l : List Ev} {s t : SS}, jM s.lat → jM l → s.play l = some t → jM t.lat
 | [], s, t, h, _, hp => by cases hp; exact h
 | e :: l, s, t, h, hl, hp => by
  simp only [SS.play] at hp
  split at hp
  ·exact xF (YL h (hl e (by simp))) (fun x hx => hl x (by simp [hx])) hp
  ·cases hp
def vy (lat : List Ev) (i : Nat) : KV := [(2, .fn 15 [] []), (6, .ptr 2 0), (11, .ptr 7 0), (46, .osl 6 9 0 lat.length), (47, .int .i64 (lat.length : Int)), (48, .int .i64 i), (71, .undef), (72, .undef), (73, .undef), (74, .undef)]
def j8 (lat : List Ev) (f : List Fx) (c : List Ch) : Heap := [.dead, .dead, .box [.nils, .nils], .dead, .dead, .dead, .arr lat.length 9 (evG lat), .box [fxS f, chS c]]
def knVC : Ctr := ctrP false (fun p : List Ev × Int => [.agg [evS p.1], .int .i64 p.2, .fn 15 [] []]) (fun p => evP p.1) (fun p r => r = zC p.1 p.2 none) (fun _ (r : EnvL × Int) => (.tup [envA r.1.1 r.1.2, .int .i64 r.2], []))
noncomputable def GKnV : Nat → Option Ctr := fun f => if f = 22 then some (yT) else if f = 23 then some (ixEC) else if f = 25 then some (repC) else if f = 15 then some (kv1C) else if f = 26 then some (zbe) else if f = 27 then some (zah) else none
theorem X6 : ∀ g c, GKnV g = some c → ze Tryz.prog g c := okIf u5 (okIf Ud (okIf Kb (okIf zfa (okIf XD (okIf Xf (zn))))))
theorem zb3 {O : Nat → Prop} {w0 : World} {Q : AV × Heap → Prop} {Hs : Nat → KV → Heap → Prop} (lat : List Ev) (hs : jM lat) (hl : lat.length ≤ 1000)
  (hq : Q (.tup [envA (zJ none lat ([], [])).1.1 (zJ none lat ([], [])).1.2, .int .i64 (zJ none lat ([], [])).2], [])) :
  zc Tryz.prog Tryz.f14 O 0 w0 [] Hs (RetR knVC 0 Q) (.code (.loop (lps K14 0).1) :: (lps K14 0).2) (mk Tryz.f14.ntmps (vy lat 0) (j8 lat [] [])) := by
 refine zc.loop (ι := {p : Nat × EnvL // p.1 ≤ lat.length ∧ envP p.2 ∧ zJ none (lat.drop p.1) p.2 = zJ none lat ([], [])}) (fun p => vy lat p.1.1) (fun p => j8 lat p.1.2.1 p.1.2.2) (fun p => lat.length - p.1.1) ⟨(0, ([], [])), Nat.zero_le _, vP (by decide) (by decide) (by simp) (by simp), rfl⟩ 0 ?_ ?_ (by kernel_rfl)
 ·exact ⟨by simp [vy], by simp [j8, fxS, chS, za], by kernel_rfl, by simp [j8]⟩
 ·rintro ⟨⟨i, f, c⟩, hil, hep, hfo⟩
  simp only at hil hep hfo
  refine zc.run hmix X6 [2, 6, 11, 46, 47, 48, 71, 72, 73, 74] 400 (T := .ite (decide ((↑i : Int) < lat.length)) (.side ((0 : Int) ≤ i ∧ (↑i : Int) < lat.length) (.ex (fun (x : Ev) => decide (Ev.kind (List.getD lat (0 + Int.toNat (↑i : Int)) Ev.nil) = (0 : Int)) = false → eqL [AV.agg [AV.int .u8 (Ev.kind (List.getD lat (0 + Int.toNat (↑i : Int)) Ev.nil)), AV.int .i64 (Ev.id (List.getD lat (0 + Int.toNat (↑i : Int)) Ev.nil)), AV.int .i64 (Ev.entry (List.getD lat (0 + Int.toNat (↑i : Int)) Ev.nil)), AV.int .i64 (Ev.target (List.getD lat (0 + Int.toNat (↑i : Int)) Ev.nil)), AV.int .i64 (Ev.date (List.getD lat (0 + Int.toNat (↑i : Int)) Ev.nil)), AV.str (Ev.zb (List.getD lat (0 + Int.toNat (↑i : Int)) Ev.nil)), AV.str (Ev.name (List.getD lat (0 + Int.toNat (↑i : Int)) Ev.nil)), AV.str (Ev.value (List.getD lat (0 + Int.toNat (↑i : Int)) Ev.nil)), AV.bool (Ev.first (List.getD lat (0 + Int.toNat (↑i : Int)) Ev.nil))]] [AV.agg [AV.int .u8 x.kind, AV.int .i64 x.id, AV.int .i64 x.entry, AV.int .i64 x.target, AV.int .i64 x.date, AV.str x.zb, AV.str x.name, AV.str x.value, AV.bool x.first]] ∧ True) fun n => .all (fun (x : Bool) => decide (Ev.kind (List.getD lat (0 + Int.toNat (↑i : Int)) Ev.nil) = (0 : Int)) = false → x = true) fun n => .ite (bif decide (Ev.kind (List.getD lat (0 + Int.toNat (↑i : Int)) Ev.nil) = (0 : Int)) then true else !n) (.ite false (.leaf (.ret [.agg [.nils, .nils], .int .i64 0] [.dead, .dead, .box [.nils, .nils], .dead, .dead, .dead, .arr lat.length 9 (evG lat), .box [.sl f.length 3 (fxG f), .sl c.length 4 (chG c)], .box [.int .u8 (Ev.kind (List.getD lat (0 + Int.toNat (↑i : Int)) Ev.nil)), .int .i64 (Ev.id (List.getD lat (0 + Int.toNat (↑i : Int)) Ev.nil)), .int .i64 (Ev.entry (List.getD lat (0 + Int.toNat (↑i : Int)) Ev.nil)), .int .i64 (Ev.target (List.getD lat (0 + Int.toNat (↑i : Int)) Ev.nil)), .int .i64 (Ev.date (List.getD lat (0 + Int.toNat (↑i : Int)) Ev.nil)), .str (Ev.zb (List.getD lat (0 + Int.toNat (↑i : Int)) Ev.nil)), .str (Ev.name (List.getD lat (0 + Int.toNat (↑i : Int)) Ev.nil)), .str (Ev.value (List.getD lat (0 + Int.toNat (↑i : Int)) Ev.nil)), .bool (Ev.first (List.getD lat (0 + Int.toNat (↑i : Int)) Ev.nil))]])) (.side (inR .i64 ((↑i : Int) + (1 : Int))) (.leaf (.back 0 [(2, .fn 15 [] []), (6, .ptr 2 0), (11, .ptr 7 0), (46, .osl 6 9 0 lat.length), (47, .int .i64 lat.length), (48, .int .i64 ((↑i : Int) + (1 : Int))), (71, .undef), (72, .undef), (73, .undef), (74, .undef)] [.dead, .dead, .box [.nils, .nils], .dead, .dead, .dead, .arr lat.length 9 (evG lat), .box [.sl f.length 3 (fxG f), .sl c.length 4 (chG c)], .box [.int .u8 (Ev.kind (List.getD lat (0 + Int.toNat (↑i : Int)) Ev.nil)), .int .i64 (Ev.id (List.getD lat (0 + Int.toNat (↑i : Int)) Ev.nil)), .int .i64 (Ev.entry (List.getD lat (0 + Int.toNat (↑i : Int)) Ev.nil)), .int .i64 (Ev.target (List.getD lat (0 + Int.toNat (↑i : Int)) Ev.nil)), .int .i64 (Ev.date (List.getD lat (0 + Int.toNat (↑i : Int)) Ev.nil)), .str (Ev.zb (List.getD lat (0 + Int.toNat (↑i : Int)) Ev.nil)), .str (Ev.name (List.getD lat (0 + Int.toNat (↑i : Int)) Ev.nil)), .str (Ev.value (List.getD lat (0 + Int.toNat (↑i : Int)) Ev.nil)), .bool (Ev.first (List.getD lat (0 + Int.toNat (↑i : Int)) Ev.nil))]])))) (.ite (decide (Ev.kind (List.getD lat (0 + Int.toNat (↑i : Int)) Ev.nil) = (1 : Int))) (.ex (fun (x : (List Fx × List Ch) × Fx) => eqL [AV.agg [AV.sl f.length 3 (fxG f), AV.sl c.length 4 (chG c)], AV.agg [AV.str (Ev.name (List.getD lat (0 + Int.toNat (↑i : Int)) Ev.nil)), AV.int .i64 (Ev.date (List.getD lat (0 + Int.toNat (↑i : Int)) Ev.nil)), AV.str (Ev.value (List.getD lat (0 + Int.toNat (↑i : Int)) Ev.nil))]] [AV.agg [AV.sl x.1.1.length 3 (fxG x.1.1), AV.sl x.1.2.length 4 (chG x.1.2)], AV.agg [AV.str x.2.name, AV.int .i64 x.2.date, AV.str x.2.value]] ∧ envP x.1 ∧ qn x.2) fun n => .all (fun (r : (List Fx × List Ch) × Int) => r = putF n.1.1 n.1.2 n.2) fun n => .ite (!decide (n.2 = 0)) (.leaf (.ret [.agg [.nils, .nils], .int .i64 n.2] [.dead, .dead, .box [.nils, .nils], .dead, .dead, .dead, .arr lat.length 9 (evG lat), .box [.sl n.1.1.length 3 (fxG n.1.1), .sl n.1.2.length 4 (chG n.1.2)], .box [.int .u8 (Ev.kind (List.getD lat (0 + Int.toNat (↑i : Int)) Ev.nil)), .int .i64 (Ev.id (List.getD lat (0 + Int.toNat (↑i : Int)) Ev.nil)), .int .i64 (Ev.entry (List.getD lat (0 + Int.toNat (↑i : Int)) Ev.nil)), .int .i64 (Ev.target (List.getD lat (0 + Int.toNat (↑i : Int)) Ev.nil)), .int .i64 (Ev.date (List.getD lat (0 + Int.toNat (↑i : Int)) Ev.nil)), .str (Ev.zb (List.getD lat (0 + Int.toNat (↑i : Int)) Ev.nil)), .str (Ev.name (List.getD lat (0 + Int.toNat (↑i : Int)) Ev.nil)), .str (Ev.value (List.getD lat (0 + Int.toNat (↑i : Int)) Ev.nil)), .bool (Ev.first (List.getD lat (0 + Int.toNat (↑i : Int)) Ev.nil))]])) (.side (inR .i64 ((↑i : Int) + (1 : Int))) (.leaf (.back 0 [(2, .fn 15 [] []), (6, .ptr 2 0), (11, .ptr 7 0), (46, .osl 6 9 0 lat.length), (47, .int .i64 lat.length), (48, .int .i64 ((↑i : Int) + (1 : Int))), (71, .undef), (72, .undef), (73, .undef), (74, .undef)] [.dead, .dead, .box [.nils, .nils], .dead, .dead, .dead, .arr lat.length 9 (evG lat), .box [.sl n.1.1.length 3 (fxG n.1.1), .sl n.1.2.length 4 (chG n.1.2)], .box [.int .u8 (Ev.kind (List.getD lat (0 + Int.toNat (↑i : Int)) Ev.nil)), .int .i64 (Ev.id (List.getD lat (0 + Int.toNat (↑i : Int)) Ev.nil)), .int .i64 (Ev.entry (List.getD lat (0 + Int.toNat (↑i : Int)) Ev.nil)), .int .i64 (Ev.target (List.getD lat (0 + Int.toNat (↑i : Int)) Ev.nil)), .int .i64 (Ev.date (List.getD lat (0 + Int.toNat (↑i : Int)) Ev.nil)), .str (Ev.zb (List.getD lat (0 + Int.toNat (↑i : Int)) Ev.nil)), .str (Ev.name (List.getD lat (0 + Int.toNat (↑i : Int)) Ev.nil)), .str (Ev.value (List.getD lat (0 + Int.toNat (↑i : Int)) Ev.nil)), .bool (Ev.first (List.getD lat (0 + Int.toNat (↑i : Int)) Ev.nil))]])))) (.ex (fun (x : (List Fx × List Ch) × Ch) => eqL [AV.agg [AV.sl f.length 3 (fxG f), AV.sl c.length 4 (chG c)], AV.agg [AV.str (Ev.zb (List.getD lat (0 + Int.toNat (↑i : Int)) Ev.nil)), AV.str (Ev.name (List.getD lat (0 + Int.toNat (↑i : Int)) Ev.nil)), AV.int .i64 (Ev.date (List.getD lat (0 + Int.toNat (↑i : Int)) Ev.nil)), AV.bool (Ev.first (List.getD lat (0 + Int.toNat (↑i : Int)) Ev.nil))]] [AV.agg [AV.sl x.1.1.length 3 (fxG x.1.1), AV.sl x.1.2.length 4 (chG x.1.2)], AV.agg [AV.str x.2.zb, AV.str x.2.name, AV.int .i64 x.2.date, AV.bool x.2.first]] ∧ envP x.1 ∧ qj x.2) fun n => .all (fun (r : (List Fx × List Ch) × Int) => r = putC n.1.1 n.1.2 n.2) fun n => .ite (!decide (n.2 = 0)) (.leaf (.ret [.agg [.nils, .nils], .int .i64 n.2] [.dead, .dead, .box [.nils, .nils], .dead, .dead, .dead, .arr lat.length 9 (evG lat), .box [.sl n.1.1.length 3 (fxG n.1.1), .sl n.1.2.length 4 (chG n.1.2)], .box [.int .u8 (Ev.kind (List.getD lat (0 + Int.toNat (↑i : Int)) Ev.nil)), .int .i64 (Ev.id (List.getD lat (0 + Int.toNat (↑i : Int)) Ev.nil)), .int .i64 (Ev.entry (List.getD lat (0 + Int.toNat (↑i : Int)) Ev.nil)), .int .i64 (Ev.target (List.getD lat (0 + Int.toNat (↑i : Int)) Ev.nil)), .int .i64 (Ev.date (List.getD lat (0 + Int.toNat (↑i : Int)) Ev.nil)), .str (Ev.zb (List.getD lat (0 + Int.toNat (↑i : Int)) Ev.nil)), .str (Ev.name (List.getD lat (0 + Int.toNat (↑i : Int)) Ev.nil)), .str (Ev.value (List.getD lat (0 + Int.toNat (↑i : Int)) Ev.nil)), .bool (Ev.first (List.getD lat (0 + Int.toNat (↑i : Int)) Ev.nil))]])) (.side (inR .i64 ((↑i : Int) + (1 : Int))) (.leaf (.back 0 [(2, .fn 15 [] []), (6, .ptr 2 0), (11, .ptr 7 0), (46, .osl 6 9 0 lat.length), (47, .int .i64 lat.length), (48, .int .i64 ((↑i : Int) + (1 : Int))), (71, .undef), (72, .undef), (73, .undef), (74, .undef)] [.dead, .dead, .box [.nils, .nils], .dead, .dead, .dead, .arr lat.length 9 (evG lat), .box [.sl n.1.1.length 3 (fxG n.1.1), .sl n.1.2.length 4 (chG n.1.2)], .box [.int .u8 (Ev.kind (List.getD lat (0 + Int.toNat (↑i : Int)) Ev.nil)), .int .i64 (Ev.id (List.getD lat (0 + Int.toNat (↑i : Int)) Ev.nil)), .int .i64 (Ev.entry (List.getD lat (0 + Int.toNat (↑i : Int)) Ev.nil)), .int .i64 (Ev.target (List.getD lat (0 + Int.toNat (↑i : Int)) Ev.nil)), .int .i64 (Ev.date (List.getD lat (0 + Int.toNat (↑i : Int)) Ev.nil)), .str (Ev.zb (List.getD lat (0 + Int.toNat (↑i : Int)) Ev.nil)), .str (Ev.name (List.getD lat (0 + Int.toNat (↑i : Int)) Ev.nil)), .str (Ev.value (List.getD lat (0 + Int.toNat (↑i : Int)) Ev.nil)), .bool (Ev.first (List.getD lat (0 + Int.toNat (↑i : Int)) Ev.nil))]]))))))) (.leaf (.ret [.agg [.sl f.length 3 (fxG f), .sl c.length 4 (chG c)], .int .i64 0] [.dead, .dead, .box [.sl f.length 3 (fxG f), .sl c.length 4 (chG c)], .dead, .dead, .dead, .arr lat.length 9 (evG lat), .box [.sl f.length 3 (fxG f), .sl c.length 4 (chG c)]]))) (by kernel_rfl) ?_
  simp only [Tree.holds, zd, inR, lo, hi, Int.toNat_natCast, Nat.zero_add]
  have cont : ∀ (v' : EnvL) (kv : KV) (h : Heap), envP v' → zJ none (lat.drop (i + 1)) v' = zJ none lat ([], []) → i < lat.length → LeK 0 Tryz.f14.ntmps kv h (vy lat (i + 1)) (j8 lat v'.1 v'.2) →
    ∃ x' : {p : Nat × EnvL // p.1 ≤ lat.length ∧ envP p.2 ∧ zJ none (lat.drop p.1) p.2 = zJ none lat ([], [])}, lat.length - x'.1.1 < lat.length - i ∧ LeK 0 Tryz.f14.ntmps kv h (vy lat x'.1.1) (j8 lat x'.1.2.1 x'.1.2.2) :=
   fun v' kv h g1 g2 hlt g3 => ⟨⟨(i + 1, v'), hlt, g1, g2⟩, by show lat.length - (i + 1) < lat.length - i; omega, g3⟩
  refine ⟨fun hlt => ?_, fun hge => ?_⟩
  ·have hlt : i < lat.length := by have := of_decide_eq_true hlt; omega
   refine ⟨by omega, fun _ => ?_⟩
   rw [Zq hlt] at hfo
   have hsx := jU hs i
   generalize lat.getD i Ev.nil = x at hfo hsx ⊢
   refine ⟨x, fun _ => ⟨by simp [Ev.av], trivial⟩, ⟨true, fun _ => rfl⟩, ?_⟩
   intro b hb
   have hkb : (bif decide (x.kind = 0) then true else !b) = (decide (x.kind = 0) || !wL none x) := by
    cases hd : decide (x.kind = 0) with
    | true => rfl
    | false => rw [hb hd]; rfl
   rw [hkb]
   refine ⟨fun ht => ⟨fun g => (by cases g), fun _ => ⟨by omega, fun _ => ?_⟩⟩, fun ht => ⟨fun hk => ?_, fun hk => ?_⟩⟩
   ·rw [if_pos trivial]
    have hst : zF none (f, c) x = ((f, c), 0) := by unfold zF; rw [if_pos ht]
    rw [hst, if_neg (by simp)] at hfo
    exact cont (f, c) _ _ hep hfo hlt ⟨by simp [vy], by simp [j8, fxS, chS, za], by kernel_rfl, by simp [j8]⟩
   ·have hst : zF none (f, c) x = putF f c x.fx := by unfold zF; rw [if_neg (by rw [ht]; decide), if_pos (of_decide_eq_true hk)]
    refine ⟨((f, c), x.fx), ⟨by simp [Ev.fx, za], hep, hsx.2⟩, ⟨_, rfl⟩, ?_⟩
    rintro _ rfl
    dsimp only
    rw [hst] at hfo
    refine ⟨fun h => ?_, fun h => ⟨by omega, fun _ => ?_⟩⟩
    ·have h : (putF f c x.fx).2 ≠ 0 := by simpa using h
     rw [if_pos h] at hfo
     rw [← hfo] at hq
     exact RetR.out0 hq (fun h => by cases h) (by simp [resV, exp2, exp1, exp0, ren0, eqA2, eqL1, envA, fxS, chS, za])
    ·have h : (putF f c x.fx).2 = 0 := by simpa using h
     rw [if_neg (by simpa using h)] at hfo
     rw [if_pos trivial]
     exact cont _ _ _ (yH hep (show qn x.fx from hsx.2) h) hfo hlt ⟨by simp [vy], by simp [j8, fxS, chS, za], by kernel_rfl, by simp [j8]⟩
   ·have hst : zF none (f, c) x = putC f c x.ch := by unfold zF; rw [if_neg (by rw [ht]; decide), if_neg (of_decide_eq_false hk)]
    refine ⟨((f, c), x.ch), ⟨by simp [Ev.ch, za], hep, ⟨hsx.1, hsx.2.1⟩⟩, ⟨_, rfl⟩, ?_⟩
    rintro _ rfl
    dsimp only
    rw [hst] at hfo
    refine ⟨fun h => ?_, fun h => ⟨by omega, fun _ => ?_⟩⟩
    ·have h : (putC f c x.ch).2 ≠ 0 := by simpa using h
     rw [if_pos h] at hfo
     rw [← hfo] at hq
     exact RetR.out0 hq (fun h => by cases h) (by simp [resV, exp2, exp1, exp0, ren0, eqA2, eqL1, envA, fxS, chS, za])
    ·have h : (putC f c x.ch).2 = 0 := by simpa using h
     rw [if_neg (by simpa using h)] at hfo
     rw [if_pos trivial]
     exact cont _ _ _ (yb hep (show qj x.ch from ⟨hsx.1, hsx.2.1⟩) h) hfo hlt ⟨by simp [vy], by simp [j8, fxS, chS, za], by kernel_rfl, by simp [j8]⟩
  ·have hge : i = lat.length := by have := of_decide_eq_false hge; omega
   subst hge
   rw [List.drop_length, show zJ none [] (f, c) = ((f, c), 0) from rfl] at hfo
   rw [← hfo] at hq
   exact RetR.out0 hq (fun h => by cases h) (by simp [resV, exp2, exp1, exp0, ren0, eqA2, eqL1, envA, fxS, chS, za])
theorem zg6 : ze Tryz.prog 14 knVC := by
 refine zh (fn := Tryz.f14) (c := Tryz.f14.body.getD .skip) rfl rfl rfl fun p hp O w0 Q hq => ?_
 obtain ⟨l, tm⟩ := p
 replace hq := hq _ rfl
 simp only at hq hp
 refine zc.run hmix X6 [2, 6, 11, 46, 47, 48, 71, 72, 73, 74] 400 (T := .ex (fun (x : List Ev) => eqL [AV.agg [AV.sl l.length 9 (evG l)]] [AV.agg [AV.sl x.length 9 (evG x)]] ∧ evP x) fun n => .all (fun (r : Int) => r = if Option.isSome (SS.play { evs := [], lat := [] } n) = true then (0 : Int) else (8 : Int)) fun n => .ite (!decide (n = 0)) (.leaf (.ret [.agg [.nils, .nils], .int .i64 8] [.box [.sl l.length 9 (evG l)], .box [.int .i64 tm], .box [.nils, .nils]])) (.ite (bif decide (tm < 0) then true else decide ((1125899906842624 : Int) < tm)) (.leaf (.ret [.agg [.nils, .nils], .int .i64 2] [.box [.sl l.length 9 (evG l)], .box [.int .i64 tm], .box [.nils, .nils]])) (.ex (fun (x : List Ev × Int) => eqL [AV.sl l.length 9 (evG l), AV.fn 24 [] [AV.ptr 0 0]] [AV.sl x.1.length 9 (evG x.1), AV.fn 24 [] [AV.ptr 0 0]] ∧ eqH [.box [AV.int .i64 tm]] [.box [AV.int .i64 x.2]] ∧ 1 = 1 ∧ x.1.length < 1099511627776) fun n => .all (fun (r : Int) => r = idxB (fun (x : Ev) => decide (n.2 < Ev.entry x)) n.1) fun n_1 => .ite (decide (n_1 < 0)) (.side ((0 : Int) ≤ l.length ∧ (↑l.length : Int) ≤ l.length) (.ex (fun (x : List Ev) => eqL [AV.sl (Int.toNat (↑l.length : Int) - 0) 9 (zg (evG l) 0)] [AV.sl x.length 9 (evG x)] ∧ x.length < 1099511627776 ∧ ∀ (e : Ev), e ∈ x → z7 e) fun n_2 => .ite (Option.isSome (SS.play { evs := [], lat := [] } n_2)) (.all (fun (s : SS) => SS.play { evs := [], lat := [] } n_2 = some s) fun n_3 => .leaf (.loop (Prod.fst (lps K14 0)) (Prod.snd (lps K14 0)) [(2, .fn 15 [] []), (6, .ptr 2 0), (11, .ptr 7 0), (46, .osl 6 9 0 (List.length (SS.lat n_3))), (47, .int .i64 (↑(List.length (SS.lat n_3)) : Int)), (48, .int .i64 0), (71, .undef), (72, .undef), (73, .undef), (74, .undef)] [.box [.sl l.length 9 (evG l)], .box [.int .i64 n.2], .box [.nils, .nils], .box [.osl 4 9 0 (List.length (SS.evs n_3)), .omap 5, .osl 6 9 0 (List.length (SS.lat n_3))], .arr (List.length (SS.evs n_3)) 9 (evG (SS.evs n_3)), Blk.map true [Sum.inl .u8, Sum.inr false, Sum.inr false, Sum.inl .i64] (zt (SS.lat n_3)) (z8 (SS.lat n_3)), .arr (List.length (SS.lat n_3)) 9 (evG (SS.lat n_3)), .box [.nils, .nils]])) .fail)) (.side ((0 : Int) ≤ n_1 ∧ n_1 ≤ (↑l.length : Int)) (.ex (fun (x : List Ev) => eqL [AV.sl (Int.toNat n_1 - 0) 9 (zg (evG l) 0)] [AV.sl x.length 9 (evG x)] ∧ x.length < 1099511627776 ∧ ∀ (e : Ev), e ∈ x → z7 e) fun n_2 => .ite (Option.isSome (SS.play { evs := [], lat := [] } n_2)) (.all (fun (s : SS) => SS.play { evs := [], lat := [] } n_2 = some s) fun n_3 => .leaf (.loop (Prod.fst (lps K14 0)) (Prod.snd (lps K14 0)) [(2, .fn 15 [] []), (6, .ptr 2 0), (11, .ptr 7 0), (46, .osl 6 9 0 (List.length (SS.lat n_3))), (47, .int .i64 (↑(List.length (SS.lat n_3)) : Int)), (48, .int .i64 0), (71, .undef), (72, .undef), (73, .undef), (74, .undef)] [.box [.sl l.length 9 (evG l)], .box [.int .i64 n.2], .box [.nils, .nils], .box [.osl 4 9 0 (List.length (SS.evs n_3)), .omap 5, .osl 6 9 0 (List.length (SS.lat n_3))], .arr (List.length (SS.evs n_3)) 9 (evG (SS.evs n_3)), Blk.map true [Sum.inl .u8, Sum.inr false, Sum.inr false, Sum.inl .i64] (zt (SS.lat n_3)) (z8 (SS.lat n_3)), .arr (List.length (SS.lat n_3)) 9 (evG (SS.lat n_3)), .box [.nils, .nils]])) .fail))))) (by kernel_rfl) ?_
 simp only [Tree.holds, zd, bifO]
 have bad : ∀ (z : Int) (h : Heap), zC l tm none = (([], []), z) → RetR knVC 0 Q [.agg [.nils, .nils], .int .i64 z] h := by
  intro z h hr
  rw [hr] at hq
  exact RetR.out0 hq (fun h => by cases h) (by simp [resV, exp2, exp1, exp0, ren0, eqA2, eqL1, envA, fxS, chS, za])
 refine ⟨l, ⟨by simp [evS, za], hp⟩, ⟨_, rfl⟩, ?_⟩
 rintro _ rfl
 refine ⟨fun h => bad _ _ ?_, fun h => ⟨fun h2 => bad _ _ ?_, fun h2 => ?_⟩⟩
 ·unfold zC
  rw [if_pos]
  cases hs : (SS.play ⟨[], []⟩ l).isSome with
  | false => rfl
  | true => rw [hs] at h; simp at h
 ·have hv : (SS.play ⟨[], []⟩ l).isSome = true := by
   cases hs : (SS.play ⟨[], []⟩ l).isSome with
   | true => rfl
   | false => rw [hs] at h; simp at h
  unfold zC
  rw [if_neg (by rw [hv]; decide), if_pos (by simpa using h2)]
 have hv : (SS.play ⟨[], []⟩ l).isSome = true := by
  cases hs : (SS.play ⟨[], []⟩ l).isSome with
  | true => rfl
  | false => rw [hs] at h; simp at h
 obtain ⟨hc1, hc2⟩ := Xw (l := l) (tm := tm)
 have hlp : ∀ e ∈ l.take (cutE l tm), z7 e := fun e he => hp.2 e (List.mem_of_mem_take he)
 have hpl := hp.1
 have hpt := xn hv (cutE l tm)
 have fin : ∀ s, SS.play ⟨[], []⟩ (l.take (cutE l tm)) = some s → jM s.lat ∧ s.lat.length ≤ 1000 ∧ zC l tm none = zJ none s.lat ([], []) := by
  intro s hs
  obtain ⟨a1, a2, a3⟩ := Xa hs
  refine ⟨xF (s := ⟨[], []⟩) (fun e he => by simp at he) hlp hs, by rw [a1.len]; exact a3, ?_⟩
  unfold zC
  rw [if_neg (by rw [hv]; decide), if_neg (by simpa using h2), hs]
 refine ⟨(l, tm), ⟨by simp [evS, za], by simp, trivial, hpl⟩, ⟨_, rfl⟩, ?_⟩
 rintro _ rfl
 dsimp only
 have done : ∀ s, SS.play ⟨[], []⟩ (l.take (cutE l tm)) = some s → zc Tryz.prog Tryz.f14 O 0 w0 [] (fun _ _ _ => False) (RetR knVC 0 Q) (.code (.loop (lps K14 0).1) :: (lps K14 0).2) (mk Tryz.f14.ntmps (vy s.lat 0) (j8 s.lat [] [])) := by
  intro s hs
  obtain ⟨b1, b2, b3⟩ := fin s hs
  rw [b3] at hq
  exact zb3 s.lat b1 b2 hq
 refine ⟨fun hn => ⟨by omega, fun _ => ?_⟩, fun hn => ?_⟩
 ·have hn := of_decide_eq_true hn
  rw [if_pos hn] at hc1
  have e1 : cutE l tm = l.length := by omega
  refine ⟨l.take (cutE l tm), ⟨⟨⟨by rw [e1]; simp, rfl, by have := yD hc2; simpa [e1] using this⟩, trivial⟩, by rw [List.length_take]; omega, hlp⟩, fun _ => ⟨Option.isSome_iff_exists.1 hpt, fun s hs => ?_⟩, fun g => by rw [hpt] at g; cases g⟩
  refine zc.weak (S := vy s.lat 0) (H := j8 s.lat [] []) ⟨by simp [vy], by simp [j8, fxS, chS, za], by kernel_rfl, by simp [j8]⟩ (done s hs)
 ·have hn := of_decide_eq_false hn
  rw [if_neg hn] at hc1
  refine ⟨by omega, fun _ => ?_⟩
  have e1 : (idxB (fun x : Ev => decide (tm < x.entry)) l).toNat = cutE l tm := by omega
  refine ⟨l.take (cutE l tm), ⟨⟨⟨by rw [e1, List.length_take]; omega, rfl, by have := yD hc2; rw [e1]; simpa using this⟩, trivial⟩, by rw [List.length_take]; omega, hlp⟩, fun _ => ⟨Option.isSome_iff_exists.1 hpt, fun s hs => ?_⟩, fun g => by rw [hpt] at g; cases g⟩
  refine zc.weak (S := vy s.lat 0) (H := j8 s.lat [] []) ⟨by simp [vy], by simp [j8, fxS, chS, za], by kernel_rfl, by simp [j8]⟩ (done s hs)
def wy (lat : List Ev) (i : Nat) : KV := [(2, .fn 16 [] [.ptr 0 0]), (6, .ptr 3 0), (11, .ptr 8 0), (46, .osl 7 9 0 lat.length), (47, .int .i64 (lat.length : Int)), (48, .int .i64 i), (71, .undef), (72, .undef), (73, .undef), (74, .undef)]
def qC (lat : List Ev) (d : Int) (f : List Fx) (c : List Ch) : Heap := [.box [.int .i64 d], .dead, .dead, .box [.nils, .nils], .dead, .dead, .dead, .arr lat.length 9 (evG lat), .box [fxS f, chS c]]
def knPC : Ctr := ctrT false false (fun p : List Ev × Int × Int => [.agg [evS p.1], .int .i64 p.2.1, .fn 16 [] [.ptr 0 0]]) (fun p => [.box [.int .i64 p.2.2]]) (fun p => evP p.1) (fun p r => r = zC p.1 p.2.1 (some p.2.2)) (fun p (r : EnvL × Int) => (.tup [envA r.1.1 r.1.2, .int .i64 r.2], [.box [.int .i64 p.2.2]]))
noncomputable def GKnP : Nat → Option Ctr := fun f => if f = 22 then some (yT) else if f = 23 then some (ixEC) else if f = 25 then some (repC) else if f = 16 then some (kp1C) else if f = 26 then some (zbe) else if f = 27 then some (zah) else none
theorem Xp : ∀ g c, GKnP g = some c → ze Tryz.prog g c := okIf u5 (okIf Ud (okIf Kb (okIf zfn (okIf XD (okIf Xf (zn))))))
theorem Uq {O : Nat → Prop} {w0 : World} {σ0 : List SE} {Q : AV × Heap → Prop} {Hs : Nat → KV → Heap → Prop} (lat : List Ev) (d : Int) (hs : jM lat) (hl : lat.length ≤ 1000)
  (hq : Q (.tup [envA (zJ (some d) lat ([], [])).1.1 (zJ (some d) lat ([], [])).1.2, .int .i64 (zJ (some d) lat ([], [])).2], [.box [.int .i64 d]])) :
  zc Tryz.prog Tryz.f14 O 1 w0 σ0 Hs (RetR knPC 1 Q) (.code (.loop (lps K14 0).1) :: (lps K14 0).2) (mk Tryz.f14.ntmps (wy lat 0) (qC lat d [] [])) := by
 refine zc.loop (ι := {p : Nat × EnvL // p.1 ≤ lat.length ∧ envP p.2 ∧ zJ (some d) (lat.drop p.1) p.2 = zJ (some d) lat ([], [])}) (fun p => wy lat p.1.1) (fun p => qC lat d p.1.2.1 p.1.2.2) (fun p => lat.length - p.1.1) ⟨(0, ([], [])), Nat.zero_le _, vP (by decide) (by decide) (by simp) (by simp), rfl⟩ 0 ?_ ?_ (by kernel_rfl)
 ·exact ⟨by simp [wy], by simp [qC, fxS, chS, za], by kernel_rfl, by simp [qC]⟩
 ·rintro ⟨⟨i, f, c⟩, hil, hep, hfo⟩
  simp only at hil hep hfo
  refine zc.run hmix Xp [2, 6, 11, 46, 47, 48, 71, 72, 73, 74] 400 (T := .ite (decide ((↑i : Int) < lat.length)) (.side ((0 : Int) ≤ i ∧ (↑i : Int) < lat.length) (.ite (decide (Ev.kind (List.getD lat (0 + Int.toNat (↑i : Int)) Ev.nil) = (0 : Int)) == false) (.ex (fun (x : Ev × Int) => eqL [AV.agg [AV.int .u8 (Ev.kind (List.getD lat (0 + Int.toNat (↑i : Int)) Ev.nil)), AV.int .i64 (Ev.id (List.getD lat (0 + Int.toNat (↑i : Int)) Ev.nil)), AV.int .i64 (Ev.entry (List.getD lat (0 + Int.toNat (↑i : Int)) Ev.nil)), AV.int .i64 (Ev.target (List.getD lat (0 + Int.toNat (↑i : Int)) Ev.nil)), AV.int .i64 (Ev.date (List.getD lat (0 + Int.toNat (↑i : Int)) Ev.nil)), AV.str (Ev.zb (List.getD lat (0 + Int.toNat (↑i : Int)) Ev.nil)), AV.str (Ev.name (List.getD lat (0 + Int.toNat (↑i : Int)) Ev.nil)), AV.str (Ev.value (List.getD lat (0 + Int.toNat (↑i : Int)) Ev.nil)), AV.bool (Ev.first (List.getD lat (0 + Int.toNat (↑i : Int)) Ev.nil))], AV.ptr 0 0] [AV.agg [AV.int .u8 x.1.kind, AV.int .i64 x.1.id, AV.int .i64 x.1.entry, AV.int .i64 x.1.target, AV.int .i64 x.1.date, AV.str x.1.zb, AV.str x.1.name, AV.str x.1.value, AV.bool x.1.first], AV.ptr 0 0] ∧ eqH [.box [AV.int .i64 d]] [.box [AV.int .i64 x.2]] ∧ 1 = 1 ∧ True) fun n => .all (fun (r : Bool) => r = decide (Ev.date n.1 ≤ n.2)) fun n_1 => .ite (bif decide (Ev.kind (List.getD lat (0 + Int.toNat (↑i : Int)) Ev.nil) = (0 : Int)) then true else !n_1) (.ite false (.leaf (.ret [.agg [.nils, .nils], .int .i64 0] [.box [.int .i64 n.2], .dead, .dead, .box [.nils, .nils], .dead, .dead, .dead, .arr lat.length 9 (evG lat), .box [.sl f.length 3 (fxG f), .sl c.length 4 (chG c)], .box [.int .u8 (Ev.kind (List.getD lat (0 + Int.toNat (↑i : Int)) Ev.nil)), .int .i64 (Ev.id (List.getD lat (0 + Int.toNat (↑i : Int)) Ev.nil)), .int .i64 (Ev.entry (List.getD lat (0 + Int.toNat (↑i : Int)) Ev.nil)), .int .i64 (Ev.target (List.getD lat (0 + Int.toNat (↑i : Int)) Ev.nil)), .int .i64 (Ev.date (List.getD lat (0 + Int.toNat (↑i : Int)) Ev.nil)), .str (Ev.zb (List.getD lat (0 + Int.toNat (↑i : Int)) Ev.nil)), .str (Ev.name (List.getD lat (0 + Int.toNat (↑i : Int)) Ev.nil)), .str (Ev.value (List.getD lat (0 + Int.toNat (↑i : Int)) Ev.nil)), .bool (Ev.first (List.getD lat (0 + Int.toNat (↑i : Int)) Ev.nil))]])) (.side (inR .i64 ((↑i : Int) + (1 : Int))) (.leaf (.back 0 [(2, .fn 16 [] [.ptr 0 0]), (6, .ptr 3 0), (11, .ptr 8 0), (46, .osl 7 9 0 lat.length), (47, .int .i64 lat.length), (48, .int .i64 ((↑i : Int) + (1 : Int))), (71, .undef), (72, .undef), (73, .bool n_1), (74, .undef)] [.box [.int .i64 n.2], .dead, .dead, .box [.nils, .nils], .dead, .dead, .dead, .arr lat.length 9 (evG lat), .box [.sl f.length 3 (fxG f), .sl c.length 4 (chG c)], .box [.int .u8 (Ev.kind (List.getD lat (0 + Int.toNat (↑i : Int)) Ev.nil)), .int .i64 (Ev.id (List.getD lat (0 + Int.toNat (↑i : Int)) Ev.nil)), .int .i64 (Ev.entry (List.getD lat (0 + Int.toNat (↑i : Int)) Ev.nil)), .int .i64 (Ev.target (List.getD lat (0 + Int.toNat (↑i : Int)) Ev.nil)), .int .i64 (Ev.date (List.getD lat (0 + Int.toNat (↑i : Int)) Ev.nil)), .str (Ev.zb (List.getD lat (0 + Int.toNat (↑i : Int)) Ev.nil)), .str (Ev.name (List.getD lat (0 + Int.toNat (↑i : Int)) Ev.nil)), .str (Ev.value (List.getD lat (0 + Int.toNat (↑i : Int)) Ev.nil)), .bool (Ev.first (List.getD lat (0 + Int.toNat (↑i : Int)) Ev.nil))]])))) (.ite (decide (Ev.kind (List.getD lat (0 + Int.toNat (↑i : Int)) Ev.nil) = (1 : Int))) (.ex (fun (x : (List Fx × List Ch) × Fx) => eqL [AV.agg [AV.sl f.length 3 (fxG f), AV.sl c.length 4 (chG c)], AV.agg [AV.str (Ev.name (List.getD lat (0 + Int.toNat (↑i : Int)) Ev.nil)), AV.int .i64 (Ev.date (List.getD lat (0 + Int.toNat (↑i : Int)) Ev.nil)), AV.str (Ev.value (List.getD lat (0 + Int.toNat (↑i : Int)) Ev.nil))]] [AV.agg [AV.sl x.1.1.length 3 (fxG x.1.1), AV.sl x.1.2.length 4 (chG x.1.2)], AV.agg [AV.str x.2.name, AV.int .i64 x.2.date, AV.str x.2.value]] ∧ envP x.1 ∧ qn x.2) fun n_2 => .all (fun (r : (List Fx × List Ch) × Int) => r = putF n_2.1.1 n_2.1.2 n_2.2) fun n_3 => .ite (!decide (n_3.2 = 0)) (.leaf (.ret [.agg [.nils, .nils], .int .i64 n_3.2] [.box [.int .i64 n.2], .dead, .dead, .box [.nils, .nils], .dead, .dead, .dead, .arr lat.length 9 (evG lat), .box [.sl n_3.1.1.length 3 (fxG n_3.1.1), .sl n_3.1.2.length 4 (chG n_3.1.2)], .box [.int .u8 (Ev.kind (List.getD lat (0 + Int.toNat (↑i : Int)) Ev.nil)), .int .i64 (Ev.id (List.getD lat (0 + Int.toNat (↑i : Int)) Ev.nil)), .int .i64 (Ev.entry (List.getD lat (0 + Int.toNat (↑i : Int)) Ev.nil)), .int .i64 (Ev.target (List.getD lat (0 + Int.toNat (↑i : Int)) Ev.nil)), .int .i64 (Ev.date (List.getD lat (0 + Int.toNat (↑i : Int)) Ev.nil)), .str (Ev.zb (List.getD lat (0 + Int.toNat (↑i : Int)) Ev.nil)), .str (Ev.name (List.getD lat (0 + Int.toNat (↑i : Int)) Ev.nil)), .str (Ev.value (List.getD lat (0 + Int.toNat (↑i : Int)) Ev.nil)), .bool (Ev.first (List.getD lat (0 + Int.toNat (↑i : Int)) Ev.nil))]])) (.side (inR .i64 ((↑i : Int) + (1 : Int))) (.leaf (.back 0 [(2, .fn 16 [] [.ptr 0 0]), (6, .ptr 3 0), (11, .ptr 8 0), (46, .osl 7 9 0 lat.length), (47, .int .i64 lat.length), (48, .int .i64 ((↑i : Int) + (1 : Int))), (71, .undef), (72, .undef), (73, .bool n_1), (74, .undef)] [.box [.int .i64 n.2], .dead, .dead, .box [.nils, .nils], .dead, .dead, .dead, .arr lat.length 9 (evG lat), .box [.sl n_3.1.1.length 3 (fxG n_3.1.1), .sl n_3.1.2.length 4 (chG n_3.1.2)], .box [.int .u8 (Ev.kind (List.getD lat (0 + Int.toNat (↑i : Int)) Ev.nil)), .int .i64 (Ev.id (List.getD lat (0 + Int.toNat (↑i : Int)) Ev.nil)), .int .i64 (Ev.entry (List.getD lat (0 + Int.toNat (↑i : Int)) Ev.nil)), .int .i64 (Ev.target (List.getD lat (0 + Int.toNat (↑i : Int)) Ev.nil)), .int .i64 (Ev.date (List.getD lat (0 + Int.toNat (↑i : Int)) Ev.nil)), .str (Ev.zb (List.getD lat (0 + Int.toNat (↑i : Int)) Ev.nil)), .str (Ev.name (List.getD lat (0 + Int.toNat (↑i : Int)) Ev.nil)), .str (Ev.value (List.getD lat (0 + Int.toNat (↑i : Int)) Ev.nil)), .bool (Ev.first (List.getD lat (0 + Int.toNat (↑i : Int)) Ev.nil))]])))) (.ex (fun (x : (List Fx × List Ch) × Ch) => eqL [AV.agg [AV.sl f.length 3 (fxG f), AV.sl c.length 4 (chG c)], AV.agg [AV.str (Ev.zb (List.getD lat (0 + Int.toNat (↑i : Int)) Ev.nil)), AV.str (Ev.name (List.getD lat (0 + Int.toNat (↑i : Int)) Ev.nil)), AV.int .i64 (Ev.date (List.getD lat (0 + Int.toNat (↑i : Int)) Ev.nil)), AV.bool (Ev.first (List.getD lat (0 + Int.toNat (↑i : Int)) Ev.nil))]] [AV.agg [AV.sl x.1.1.length 3 (fxG x.1.1), AV.sl x.1.2.length 4 (chG x.1.2)], AV.agg [AV.str x.2.zb, AV.str x.2.name, AV.int .i64 x.2.date, AV.bool x.2.first]] ∧ envP x.1 ∧ qj x.2) fun n_2 => .all (fun (r : (List Fx × List Ch) × Int) => r = putC n_2.1.1 n_2.1.2 n_2.2) fun n_3 => .ite (!decide (n_3.2 = 0)) (.leaf (.ret [.agg [.nils, .nils], .int .i64 n_3.2] [.box [.int .i64 n.2], .dead, .dead, .box [.nils, .nils], .dead, .dead, .dead, .arr lat.length 9 (evG lat), .box [.sl n_3.1.1.length 3 (fxG n_3.1.1), .sl n_3.1.2.length 4 (chG n_3.1.2)], .box [.int .u8 (Ev.kind (List.getD lat (0 + Int.toNat (↑i : Int)) Ev.nil)), .int .i64 (Ev.id (List.getD lat (0 + Int.toNat (↑i : Int)) Ev.nil)), .int .i64 (Ev.entry (List.getD lat (0 + Int.toNat (↑i : Int)) Ev.nil)), .int .i64 (Ev.target (List.getD lat (0 + Int.toNat (↑i : Int)) Ev.nil)), .int .i64 (Ev.date (List.getD lat (0 + Int.toNat (↑i : Int)) Ev.nil)), .str (Ev.zb (List.getD lat (0 + Int.toNat (↑i : Int)) Ev.nil)), .str (Ev.name (List.getD lat (0 + Int.toNat (↑i : Int)) Ev.nil)), .str (Ev.value (List.getD lat (0 + Int.toNat (↑i : Int)) Ev.nil)), .bool (Ev.first (List.getD lat (0 + Int.toNat (↑i : Int)) Ev.nil))]])) (.side (inR .i64 ((↑i : Int) + (1 : Int))) (.leaf (.back 0 [(2, .fn 16 [] [.ptr 0 0]), (6, .ptr 3 0), (11, .ptr 8 0), (46, .osl 7 9 0 lat.length), (47, .int .i64 lat.length), (48, .int .i64 ((↑i : Int) + (1 : Int))), (71, .undef), (72, .undef), (73, .bool n_1), (74, .undef)] [.box [.int .i64 n.2], .dead, .dead, .box [.nils, .nils], .dead, .dead, .dead, .arr lat.length 9 (evG lat), .box [.sl n_3.1.1.length 3 (fxG n_3.1.1), .sl n_3.1.2.length 4 (chG n_3.1.2)], .box [.int .u8 (Ev.kind (List.getD lat (0 + Int.toNat (↑i : Int)) Ev.nil)), .int .i64 (Ev.id (List.getD lat (0 + Int.toNat (↑i : Int)) Ev.nil)), .int .i64 (Ev.entry (List.getD lat (0 + Int.toNat (↑i : Int)) Ev.nil)), .int .i64 (Ev.target (List.getD lat (0 + Int.toNat (↑i : Int)) Ev.nil)), .int .i64 (Ev.date (List.getD lat (0 + Int.toNat (↑i : Int)) Ev.nil)), .str (Ev.zb (List.getD lat (0 + Int.toNat (↑i : Int)) Ev.nil)), .str (Ev.name (List.getD lat (0 + Int.toNat (↑i : Int)) Ev.nil)), .str (Ev.value (List.getD lat (0 + Int.toNat (↑i : Int)) Ev.nil)), .bool (Ev.first (List.getD lat (0 + Int.toNat (↑i : Int)) Ev.nil))]])))))) (.ite (bif decide (Ev.kind (List.getD lat (0 + Int.toNat (↑i : Int)) Ev.nil) = (0 : Int)) then true else !false) (.ite false (.leaf (.ret [.agg [.nils, .nils], .int .i64 0] [.box [.int .i64 d], .dead, .dead, .box [.nils, .nils], .dead, .dead, .dead, .arr lat.length 9 (evG lat), .box [.sl f.length 3 (fxG f), .sl c.length 4 (chG c)], .box [.int .u8 (Ev.kind (List.getD lat (0 + Int.toNat (↑i : Int)) Ev.nil)), .int .i64 (Ev.id (List.getD lat (0 + Int.toNat (↑i : Int)) Ev.nil)), .int .i64 (Ev.entry (List.getD lat (0 + Int.toNat (↑i : Int)) Ev.nil)), .int .i64 (Ev.target (List.getD lat (0 + Int.toNat (↑i : Int)) Ev.nil)), .int .i64 (Ev.date (List.getD lat (0 + Int.toNat (↑i : Int)) Ev.nil)), .str (Ev.zb (List.getD lat (0 + Int.toNat (↑i : Int)) Ev.nil)), .str (Ev.name (List.getD lat (0 + Int.toNat (↑i : Int)) Ev.nil)), .str (Ev.value (List.getD lat (0 + Int.toNat (↑i : Int)) Ev.nil)), .bool (Ev.first (List.getD lat (0 + Int.toNat (↑i : Int)) Ev.nil))]])) (.side (inR .i64 ((↑i : Int) + (1 : Int))) (.leaf (.back 0 [(2, .fn 16 [] [.ptr 0 0]), (6, .ptr 3 0), (11, .ptr 8 0), (46, .osl 7 9 0 lat.length), (47, .int .i64 lat.length), (48, .int .i64 ((↑i : Int) + (1 : Int))), (71, .undef), (72, .undef), (73, .undef), (74, .undef)] [.box [.int .i64 d], .dead, .dead, .box [.nils, .nils], .dead, .dead, .dead, .arr lat.length 9 (evG lat), .box [.sl f.length 3 (fxG f), .sl c.length 4 (chG c)], .box [.int .u8 (Ev.kind (List.getD lat (0 + Int.toNat (↑i : Int)) Ev.nil)), .int .i64 (Ev.id (List.getD lat (0 + Int.toNat (↑i : Int)) Ev.nil)), .int .i64 (Ev.entry (List.getD lat (0 + Int.toNat (↑i : Int)) Ev.nil)), .int .i64 (Ev.target (List.getD lat (0 + Int.toNat (↑i : Int)) Ev.nil)), .int .i64 (Ev.date (List.getD lat (0 + Int.toNat (↑i : Int)) Ev.nil)), .str (Ev.zb (List.getD lat (0 + Int.toNat (↑i : Int)) Ev.nil)), .str (Ev.name (List.getD lat (0 + Int.toNat (↑i : Int)) Ev.nil)), .str (Ev.value (List.getD lat (0 + Int.toNat (↑i : Int)) Ev.nil)), .bool (Ev.first (List.getD lat (0 + Int.toNat (↑i : Int)) Ev.nil))]])))) (.ite (decide (Ev.kind (List.getD lat (0 + Int.toNat (↑i : Int)) Ev.nil) = (1 : Int))) (.ex (fun (x : (List Fx × List Ch) × Fx) => eqL [AV.agg [AV.sl f.length 3 (fxG f), AV.sl c.length 4 (chG c)], AV.agg [AV.str (Ev.name (List.getD lat (0 + Int.toNat (↑i : Int)) Ev.nil)), AV.int .i64 (Ev.date (List.getD lat (0 + Int.toNat (↑i : Int)) Ev.nil)), AV.str (Ev.value (List.getD lat (0 + Int.toNat (↑i : Int)) Ev.nil))]] [AV.agg [AV.sl x.1.1.length 3 (fxG x.1.1), AV.sl x.1.2.length 4 (chG x.1.2)], AV.agg [AV.str x.2.name, AV.int .i64 x.2.date, AV.str x.2.value]] ∧ envP x.1 ∧ qn x.2) fun n => .all (fun (r : (List Fx × List Ch) × Int) => r = putF n.1.1 n.1.2 n.2) fun n => .ite (!decide (n.2 = 0)) (.leaf (.ret [.agg [.nils, .nils], .int .i64 n.2] [.box [.int .i64 d], .dead, .dead, .box [.nils, .nils], .dead, .dead, .dead, .arr lat.length 9 (evG lat), .box [.sl n.1.1.length 3 (fxG n.1.1), .sl n.1.2.length 4 (chG n.1.2)], .box [.int .u8 (Ev.kind (List.getD lat (0 + Int.toNat (↑i : Int)) Ev.nil)), .int .i64 (Ev.id (List.getD lat (0 + Int.toNat (↑i : Int)) Ev.nil)), .int .i64 (Ev.entry (List.getD lat (0 + Int.toNat (↑i : Int)) Ev.nil)), .int .i64 (Ev.target (List.getD lat (0 + Int.toNat (↑i : Int)) Ev.nil)), .int .i64 (Ev.date (List.getD lat (0 + Int.toNat (↑i : Int)) Ev.nil)), .str (Ev.zb (List.getD lat (0 + Int.toNat (↑i : Int)) Ev.nil)), .str (Ev.name (List.getD lat (0 + Int.toNat (↑i : Int)) Ev.nil)), .str (Ev.value (List.getD lat (0 + Int.toNat (↑i : Int)) Ev.nil)), .bool (Ev.first (List.getD lat (0 + Int.toNat (↑i : Int)) Ev.nil))]])) (.side (inR .i64 ((↑i : Int) + (1 : Int))) (.leaf (.back 0 [(2, .fn 16 [] [.ptr 0 0]), (6, .ptr 3 0), (11, .ptr 8 0), (46, .osl 7 9 0 lat.length), (47, .int .i64 lat.length), (48, .int .i64 ((↑i : Int) + (1 : Int))), (71, .undef), (72, .undef), (73, .undef), (74, .undef)] [.box [.int .i64 d], .dead, .dead, .box [.nils, .nils], .dead, .dead, .dead, .arr lat.length 9 (evG lat), .box [.sl n.1.1.length 3 (fxG n.1.1), .sl n.1.2.length 4 (chG n.1.2)], .box [.int .u8 (Ev.kind (List.getD lat (0 + Int.toNat (↑i : Int)) Ev.nil)), .int .i64 (Ev.id (List.getD lat (0 + Int.toNat (↑i : Int)) Ev.nil)), .int .i64 (Ev.entry (List.getD lat (0 + Int.toNat (↑i : Int)) Ev.nil)), .int .i64 (Ev.target (List.getD lat (0 + Int.toNat (↑i : Int)) Ev.nil)), .int .i64 (Ev.date (List.getD lat (0 + Int.toNat (↑i : Int)) Ev.nil)), .str (Ev.zb (List.getD lat (0 + Int.toNat (↑i : Int)) Ev.nil)), .str (Ev.name (List.getD lat (0 + Int.toNat (↑i : Int)) Ev.nil)), .str (Ev.value (List.getD lat (0 + Int.toNat (↑i : Int)) Ev.nil)), .bool (Ev.first (List.getD lat (0 + Int.toNat (↑i : Int)) Ev.nil))]])))) (.ex (fun (x : (List Fx × List Ch) × Ch) => eqL [AV.agg [AV.sl f.length 3 (fxG f), AV.sl c.length 4 (chG c)], AV.agg [AV.str (Ev.zb (List.getD lat (0 + Int.toNat (↑i : Int)) Ev.nil)), AV.str (Ev.name (List.getD lat (0 + Int.toNat (↑i : Int)) Ev.nil)), AV.int .i64 (Ev.date (List.getD lat (0 + Int.toNat (↑i : Int)) Ev.nil)), AV.bool (Ev.first (List.getD lat (0 + Int.toNat (↑i : Int)) Ev.nil))]] [AV.agg [AV.sl x.1.1.length 3 (fxG x.1.1), AV.sl x.1.2.length 4 (chG x.1.2)], AV.agg [AV.str x.2.zb, AV.str x.2.name, AV.int .i64 x.2.date, AV.bool x.2.first]] ∧ envP x.1 ∧ qj x.2) fun n => .all (fun (r : (List Fx × List Ch) × Int) => r = putC n.1.1 n.1.2 n.2) fun n => .ite (!decide (n.2 = 0)) (.leaf (.ret [.agg [.nils, .nils], .int .i64 n.2] [.box [.int .i64 d], .dead, .dead, .box [.nils, .nils], .dead, .dead, .dead, .arr lat.length 9 (evG lat), .box [.sl n.1.1.length 3 (fxG n.1.1), .sl n.1.2.length 4 (chG n.1.2)], .box [.int .u8 (Ev.kind (List.getD lat (0 + Int.toNat (↑i : Int)) Ev.nil)), .int .i64 (Ev.id (List.getD lat (0 + Int.toNat (↑i : Int)) Ev.nil)), .int .i64 (Ev.entry (List.getD lat (0 + Int.toNat (↑i : Int)) Ev.nil)), .int .i64 (Ev.target (List.getD lat (0 + Int.toNat (↑i : Int)) Ev.nil)), .int .i64 (Ev.date (List.getD lat (0 + Int.toNat (↑i : Int)) Ev.nil)), .str (Ev.zb (List.getD lat (0 + Int.toNat (↑i : Int)) Ev.nil)), .str (Ev.name (List.getD lat (0 + Int.toNat (↑i : Int)) Ev.nil)), .str (Ev.value (List.getD lat (0 + Int.toNat (↑i : Int)) Ev.nil)), .bool (Ev.first (List.getD lat (0 + Int.toNat (↑i : Int)) Ev.nil))]])) (.side (inR .i64 ((↑i : Int) + (1 : Int))) (.leaf (.back 0 [(2, .fn 16 [] [.ptr 0 0]), (6, .ptr 3 0), (11, .ptr 8 0), (46, .osl 7 9 0 lat.length), (47, .int .i64 lat.length), (48, .int .i64 ((↑i : Int) + (1 : Int))), (71, .undef), (72, .undef), (73, .undef), (74, .undef)] [.box [.int .i64 d], .dead, .dead, .box [.nils, .nils], .dead, .dead, .dead, .arr lat.length 9 (evG lat), .box [.sl n.1.1.length 3 (fxG n.1.1), .sl n.1.2.length 4 (chG n.1.2)], .box [.int .u8 (Ev.kind (List.getD lat (0 + Int.toNat (↑i : Int)) Ev.nil)), .int .i64 (Ev.id (List.getD lat (0 + Int.toNat (↑i : Int)) Ev.nil)), .int .i64 (Ev.entry (List.getD lat (0 + Int.toNat (↑i : Int)) Ev.nil)), .int .i64 (Ev.target (List.getD lat (0 + Int.toNat (↑i : Int)) Ev.nil)), .int .i64 (Ev.date (List.getD lat (0 + Int.toNat (↑i : Int)) Ev.nil)), .str (Ev.zb (List.getD lat (0 + Int.toNat (↑i : Int)) Ev.nil)), .str (Ev.name (List.getD lat (0 + Int.toNat (↑i : Int)) Ev.nil)), .str (Ev.value (List.getD lat (0 + Int.toNat (↑i : Int)) Ev.nil)), .bool (Ev.first (List.getD lat (0 + Int.toNat (↑i : Int)) Ev.nil))]])))))))) (.leaf (.ret [.agg [.sl f.length 3 (fxG f), .sl c.length 4 (chG c)], .int .i64 0] [.box [.int .i64 d], .dead, .dead, .box [.sl f.length 3 (fxG f), .sl c.length 4 (chG c)], .dead, .dead, .dead, .arr lat.length 9 (evG lat), .box [.sl f.length 3 (fxG f), .sl c.length 4 (chG c)]]))) (by kernel_rfl) ?_
  simp only [Tree.holds, zd, inR, lo, hi, Int.toNat_natCast, Nat.zero_add]
  have cont : ∀ (v' : EnvL) (kv : KV) (h : Heap), envP v' → zJ (some d) (lat.drop (i + 1)) v' = zJ (some d) lat ([], []) → i < lat.length → LeK 1 Tryz.f14.ntmps kv h (wy lat (i + 1)) (qC lat d v'.1 v'.2) →
    ∃ x' : {p : Nat × EnvL // p.1 ≤ lat.length ∧ envP p.2 ∧ zJ (some d) (lat.drop p.1) p.2 = zJ (some d) lat ([], [])}, lat.length - x'.1.1 < lat.length - i ∧ LeK 1 Tryz.f14.ntmps kv h (wy lat x'.1.1) (qC lat d x'.1.2.1 x'.1.2.2) :=
   fun v' kv h g1 g2 hlt g3 => ⟨⟨(i + 1, v'), hlt, g1, g2⟩, by show lat.length - (i + 1) < lat.length - i; omega, g3⟩
  refine ⟨fun hlt => ?_, fun hge => ?_⟩
  ·have hlt : i < lat.length := by have := of_decide_eq_true hlt; omega
   refine ⟨by omega, fun _ => ?_⟩
   rw [Zq hlt] at hfo
   have hsx := jU hs i
   generalize lat.getD i Ev.nil = x at hfo hsx ⊢
   refine ⟨fun hz => ?_, fun hz => ?_⟩
   ·refine ⟨(x, d), ⟨by simp [Ev.av], by simp, trivial, trivial⟩, ⟨_, rfl⟩, ?_⟩
    rintro _ rfl
    dsimp only
    rw [show (bif decide (x.kind = 0) then true else !decide (x.date ≤ d)) = (decide (x.kind = 0) || !wL (some d) x) from bifO _ _]
    refine ⟨fun ht => ⟨fun g => (by cases g), fun _ => ⟨by omega, fun _ => ?_⟩⟩, fun ht => ⟨fun hk => ?_, fun hk => ?_⟩⟩
    ·rw [if_pos trivial]
     have hst : zF (some d) (f, c) x = ((f, c), 0) := by unfold zF; rw [if_pos ht]
     rw [hst, if_neg (by simp)] at hfo
     exact cont (f, c) _ _ hep hfo hlt ⟨by simp [wy], by simp [qC, fxS, chS, za], by kernel_rfl, by simp [qC]⟩
    ·have hst : zF (some d) (f, c) x = putF f c x.fx := by unfold zF; rw [if_neg (by rw [ht]; decide), if_pos (of_decide_eq_true hk)]
     refine ⟨((f, c), x.fx), ⟨by simp [Ev.fx, za], hep, hsx.2⟩, ⟨_, rfl⟩, ?_⟩
     rintro _ rfl
     dsimp only
     rw [hst] at hfo
     refine ⟨fun h => ?_, fun h => ⟨by omega, fun _ => ?_⟩⟩
     ·have h : (putF f c x.fx).2 ≠ 0 := by simpa using h
      rw [if_pos h] at hfo
      rw [← hfo] at hq
      exact RetR.keep [0] rfl (by simp) (by show ∀ j, j < 1 → _; decide) rfl hq (by simp [resV, exp2, exp1, exp0, ren0, eqA2, eqL1, envA, fxS, chS, za]) (by simp [expH, expB, exp1, exp0, ren0]) rfl
     ·have h : (putF f c x.fx).2 = 0 := by simpa using h
      rw [if_neg (by simpa using h)] at hfo
      rw [if_pos trivial]
      exact cont _ _ _ (yH hep (show qn x.fx from hsx.2) h) hfo hlt ⟨by simp [wy], by simp [qC, fxS, chS, za], by kernel_rfl, by simp [qC]⟩
    ·have hst : zF (some d) (f, c) x = putC f c x.ch := by unfold zF; rw [if_neg (by rw [ht]; decide), if_neg (of_decide_eq_false hk)]
     refine ⟨((f, c), x.ch), ⟨by simp [Ev.ch, za], hep, ⟨hsx.1, hsx.2.1⟩⟩, ⟨_, rfl⟩, ?_⟩
     rintro _ rfl
     dsimp only
     rw [hst] at hfo
     refine ⟨fun h => ?_, fun h => ⟨by omega, fun _ => ?_⟩⟩
     ·have h : (putC f c x.ch).2 ≠ 0 := by simpa using h
      rw [if_pos h] at hfo
      rw [← hfo] at hq
      exact RetR.keep [0] rfl (by simp) (by show ∀ j, j < 1 → _; decide) rfl hq (by simp [resV, exp2, exp1, exp0, ren0, eqA2, eqL1, envA, fxS, chS, za]) (by simp [expH, expB, exp1, exp0, ren0]) rfl
     ·have h : (putC f c x.ch).2 = 0 := by simpa using h
      rw [if_neg (by simpa using h)] at hfo
      rw [if_pos trivial]
      exact cont _ _ _ (yb hep (show qj x.ch from ⟨hsx.1, hsx.2.1⟩) h) hfo hlt ⟨by simp [wy], by simp [qC, fxS, chS, za], by kernel_rfl, by simp [qC]⟩
   ·have hz : decide (x.kind = 0) = true := by
     cases hd : decide (x.kind = 0) with
     | true => rfl
     | false => rw [hd] at hz; simp at hz
    rw [show (bif decide (x.kind = 0) then true else !false) = (decide (x.kind = 0) || !wL (some d) x) by rw [hz]; rfl]
    refine ⟨fun ht => ⟨fun g => (by cases g), fun _ => ⟨by omega, fun _ => ?_⟩⟩, fun ht => ⟨fun hk => ?_, fun hk => ?_⟩⟩
    ·rw [if_pos trivial]
     have hst : zF (some d) (f, c) x = ((f, c), 0) := by unfold zF; rw [if_pos ht]
     rw [hst, if_neg (by simp)] at hfo
     exact cont (f, c) _ _ hep hfo hlt ⟨by simp [wy], by simp [qC, fxS, chS, za], by kernel_rfl, by simp [qC]⟩
    ·have hst : zF (some d) (f, c) x = putF f c x.fx := by unfold zF; rw [if_neg (by rw [ht]; decide), if_pos (of_decide_eq_true hk)]
     refine ⟨((f, c), x.fx), ⟨by simp [Ev.fx, za], hep, hsx.2⟩, ⟨_, rfl⟩, ?_⟩
     rintro _ rfl
     dsimp only
     rw [hst] at hfo
     refine ⟨fun h => ?_, fun h => ⟨by omega, fun _ => ?_⟩⟩
     ·have h : (putF f c x.fx).2 ≠ 0 := by simpa using h
      rw [if_pos h] at hfo
      rw [← hfo] at hq
      exact RetR.keep [0] rfl (by simp) (by show ∀ j, j < 1 → _; decide) rfl hq (by simp [resV, exp2, exp1, exp0, ren0, eqA2, eqL1, envA, fxS, chS, za]) (by simp [expH, expB, exp1, exp0, ren0]) rfl
     ·have h : (putF f c x.fx).2 = 0 := by simpa using h
      rw [if_neg (by simpa using h)] at hfo
      rw [if_pos trivial]
      exact cont _ _ _ (yH hep (show qn x.fx from hsx.2) h) hfo hlt ⟨by simp [wy], by simp [qC, fxS, chS, za], by kernel_rfl, by simp [qC]⟩
    ·have hst : zF (some d) (f, c) x = putC f c x.ch := by unfold zF; rw [if_neg (by rw [ht]; decide), if_neg (of_decide_eq_false hk)]
     refine ⟨((f, c), x.ch), ⟨by simp [Ev.ch, za], hep, ⟨hsx.1, hsx.2.1⟩⟩, ⟨_, rfl⟩, ?_⟩
     rintro _ rfl
     dsimp only
     rw [hst] at hfo
     refine ⟨fun h => ?_, fun h => ⟨by omega, fun _ => ?_⟩⟩
     ·have h : (putC f c x.ch).2 ≠ 0 := by simpa using h
      rw [if_pos h] at hfo
      rw [← hfo] at hq
      exact RetR.keep [0] rfl (by simp) (by show ∀ j, j < 1 → _; decide) rfl hq (by simp [resV, exp2, exp1, exp0, ren0, eqA2, eqL1, envA, fxS, chS, za]) (by simp [expH, expB, exp1, exp0, ren0]) rfl
     ·have h : (putC f c x.ch).2 = 0 := by simpa using h
      rw [if_neg (by simpa using h)] at hfo
      rw [if_pos trivial]
      exact cont _ _ _ (yb hep (show qj x.ch from ⟨hsx.1, hsx.2.1⟩) h) hfo hlt ⟨by simp [wy], by simp [qC, fxS, chS, za], by kernel_rfl, by simp [qC]⟩
  ·have hge : i = lat.length := by have := of_decide_eq_false hge; omega
   subst hge
   rw [List.drop_length, show zJ (some d) [] (f, c) = ((f, c), 0) from rfl] at hfo
   rw [← hfo] at hq
   exact RetR.keep [0] rfl (by simp) (by show ∀ j, j < 1 → _; decide) rfl hq (by simp [resV, exp2, exp1, exp0, ren0, eqA2, eqL1, envA, fxS, chS, za]) (by simp [expH, expB, exp1, exp0, ren0]) rfl
theorem zfp : ze Tryz.prog 14 knPC := by
 refine jh (fn := Tryz.f14) (c := Tryz.f14.body.getD .skip) rfl rfl rfl (fun h => by cases h) fun p hp O w0 σ0 Q hl0 hq => ?_
 obtain ⟨l, tm, d⟩ := p
 replace hq := hq _ rfl
 simp only at hq hp
 refine zc.run hmix Xp [2, 6, 11, 46, 47, 48, 71, 72, 73, 74] 400 (T := .ex (fun (x : List Ev) => eqL [AV.agg [AV.sl l.length 9 (evG l)]] [AV.agg [AV.sl x.length 9 (evG x)]] ∧ evP x) fun n => .all (fun (r : Int) => r = if Option.isSome (SS.play { evs := [], lat := [] } n) = true then (0 : Int) else (8 : Int)) fun n => .ite (!decide (n = 0)) (.leaf (.ret [.agg [.nils, .nils], .int .i64 8] [.box [.int .i64 d], .box [.sl l.length 9 (evG l)], .box [.int .i64 tm], .box [.nils, .nils]])) (.ite (bif decide (tm < 0) then true else decide ((1125899906842624 : Int) < tm)) (.leaf (.ret [.agg [.nils, .nils], .int .i64 2] [.box [.int .i64 d], .box [.sl l.length 9 (evG l)], .box [.int .i64 tm], .box [.nils, .nils]])) (.ex (fun (x : List Ev × Int) => eqL [AV.sl l.length 9 (evG l), AV.fn 24 [] [AV.ptr 0 0]] [AV.sl x.1.length 9 (evG x.1), AV.fn 24 [] [AV.ptr 0 0]] ∧ eqH [.box [AV.int .i64 tm]] [.box [AV.int .i64 x.2]] ∧ 1 = 1 ∧ x.1.length < 1099511627776) fun n => .all (fun (r : Int) => r = idxB (fun (x : Ev) => decide (n.2 < Ev.entry x)) n.1) fun n_1 => .ite (decide (n_1 < 0)) (.side ((0 : Int) ≤ l.length ∧ (↑l.length : Int) ≤ l.length) (.ex (fun (x : List Ev) => eqL [AV.sl (Int.toNat (↑l.length : Int) - 0) 9 (zg (evG l) 0)] [AV.sl x.length 9 (evG x)] ∧ x.length < 1099511627776 ∧ ∀ (e : Ev), e ∈ x → z7 e) fun n_2 => .ite (Option.isSome (SS.play { evs := [], lat := [] } n_2)) (.all (fun (s : SS) => SS.play { evs := [], lat := [] } n_2 = some s) fun n_3 => .leaf (.loop (Prod.fst (lps K14 0)) (Prod.snd (lps K14 0)) [(2, .fn 16 [] [.ptr 0 0]), (6, .ptr 3 0), (11, .ptr 8 0), (46, .osl 7 9 0 (List.length (SS.lat n_3))), (47, .int .i64 (↑(List.length (SS.lat n_3)) : Int)), (48, .int .i64 0), (71, .undef), (72, .undef), (73, .undef), (74, .undef)] [.box [.int .i64 d], .box [.sl l.length 9 (evG l)], .box [.int .i64 n.2], .box [.nils, .nils], .box [.osl 5 9 0 (List.length (SS.evs n_3)), .omap 6, .osl 7 9 0 (List.length (SS.lat n_3))], .arr (List.length (SS.evs n_3)) 9 (evG (SS.evs n_3)), Blk.map true [Sum.inl .u8, Sum.inr false, Sum.inr false, Sum.inl .i64] (zt (SS.lat n_3)) (z8 (SS.lat n_3)), .arr (List.length (SS.lat n_3)) 9 (evG (SS.lat n_3)), .box [.nils, .nils]])) .fail)) (.side ((0 : Int) ≤ n_1 ∧ n_1 ≤ (↑l.length : Int)) (.ex (fun (x : List Ev) => eqL [AV.sl (Int.toNat n_1 - 0) 9 (zg (evG l) 0)] [AV.sl x.length 9 (evG x)] ∧ x.length < 1099511627776 ∧ ∀ (e : Ev), e ∈ x → z7 e) fun n_2 => .ite (Option.isSome (SS.play { evs := [], lat := [] } n_2)) (.all (fun (s : SS) => SS.play { evs := [], lat := [] } n_2 = some s) fun n_3 => .leaf (.loop (Prod.fst (lps K14 0)) (Prod.snd (lps K14 0)) [(2, .fn 16 [] [.ptr 0 0]), (6, .ptr 3 0), (11, .ptr 8 0), (46, .osl 7 9 0 (List.length (SS.lat n_3))), (47, .int .i64 (↑(List.length (SS.lat n_3)) : Int)), (48, .int .i64 0), (71, .undef), (72, .undef), (73, .undef), (74, .undef)] [.box [.int .i64 d], .box [.sl l.length 9 (evG l)], .box [.int .i64 n.2], .box [.nils, .nils], .box [.osl 5 9 0 (List.length (SS.evs n_3)), .omap 6, .osl 7 9 0 (List.length (SS.lat n_3))], .arr (List.length (SS.evs n_3)) 9 (evG (SS.evs n_3)), Blk.map true [Sum.inl .u8, Sum.inr false, Sum.inr false, Sum.inl .i64] (zt (SS.lat n_3)) (z8 (SS.lat n_3)), .arr (List.length (SS.lat n_3)) 9 (evG (SS.lat n_3)), .box [.nils, .nils]])) .fail))))) (by kernel_rfl) ?_
 simp only [Tree.holds, zd, bifO]
 have bad : ∀ (z : Int) (h : Heap), (∃ rest, h = .box [.int .i64 d] :: rest) → zC l tm (some d) = (([], []), z) → RetR knPC 1 Q [.agg [.nils, .nils], .int .i64 z] h := by
  intro z h ⟨rest, hh⟩ hr
  rw [hr] at hq
  subst hh
  exact RetR.keep [0] rfl (by simp) (by show ∀ j, j < 1 → _; decide) rfl hq (by simp [resV, exp2, exp1, exp0, ren0, eqA2, eqL1, envA, fxS, chS, za]) (by simp [expH, expB, exp1, exp0, ren0]) rfl
 refine ⟨l, ⟨by simp [evS, za], hp⟩, ⟨_, rfl⟩, ?_⟩
 rintro _ rfl
 refine ⟨fun h => bad _ _ ⟨_, rfl⟩ ?_, fun h => ⟨fun h2 => bad _ _ ⟨_, rfl⟩ ?_, fun h2 => ?_⟩⟩
 ·unfold zC
  rw [if_pos]
  cases hs : (SS.play ⟨[], []⟩ l).isSome with
  | false => rfl
  | true => rw [hs] at h; simp at h
 ·have hv : (SS.play ⟨[], []⟩ l).isSome = true := by
   cases hs : (SS.play ⟨[], []⟩ l).isSome with
   | true => rfl
   | false => rw [hs] at h; simp at h
  unfold zC
  rw [if_neg (by rw [hv]; decide), if_pos (by simpa using h2)]
 have hv : (SS.play ⟨[], []⟩ l).isSome = true := by
  cases hs : (SS.play ⟨[], []⟩ l).isSome with
  | true => rfl
  | false => rw [hs] at h; simp at h
 obtain ⟨hc1, hc2⟩ := Xw (l := l) (tm := tm)
 have hlp : ∀ e ∈ l.take (cutE l tm), z7 e := fun e he => hp.2 e (List.mem_of_mem_take he)
 have hpl := hp.1
 have hpt := xn hv (cutE l tm)
 have fin : ∀ s, SS.play ⟨[], []⟩ (l.take (cutE l tm)) = some s → jM s.lat ∧ s.lat.length ≤ 1000 ∧ zC l tm (some d) = zJ (some d) s.lat ([], []) := by
  intro s hs
  obtain ⟨a1, a2, a3⟩ := Xa hs
  refine ⟨xF (s := ⟨[], []⟩) (fun e he => by simp at he) hlp hs, by rw [a1.len]; exact a3, ?_⟩
  unfold zC
  rw [if_neg (by rw [hv]; decide), if_neg (by simpa using h2), hs]
 refine ⟨(l, tm), ⟨by simp [evS, za], by simp, trivial, hpl⟩, ⟨_, rfl⟩, ?_⟩
 rintro _ rfl
 dsimp only
 have done : ∀ s, SS.play ⟨[], []⟩ (l.take (cutE l tm)) = some s → zc Tryz.prog Tryz.f14 O 1 w0 σ0 (fun _ _ _ => False) (RetR knPC 1 Q) (.code (.loop (lps K14 0).1) :: (lps K14 0).2) (mk Tryz.f14.ntmps (wy s.lat 0) (qC s.lat d [] [])) := by
  intro s hs
  obtain ⟨b1, b2, b3⟩ := fin s hs
  rw [b3] at hq
  exact Uq s.lat d b1 b2 hq
 refine ⟨fun hn => ⟨by omega, fun _ => ?_⟩, fun hn => ?_⟩
 ·have hn := of_decide_eq_true hn
  rw [if_pos hn] at hc1
  have e1 : cutE l tm = l.length := by omega
  refine ⟨l.take (cutE l tm), ⟨⟨⟨by rw [e1]; simp, rfl, by have := yD hc2; simpa [e1] using this⟩, trivial⟩, by rw [List.length_take]; omega, hlp⟩, fun _ => ⟨Option.isSome_iff_exists.1 hpt, fun s hs => ?_⟩, fun g => by rw [hpt] at g; cases g⟩
  refine zc.weak (S := wy s.lat 0) (H := qC s.lat d [] []) ⟨by simp [wy], by simp [qC, fxS, chS, za], by kernel_rfl, by simp [qC]⟩ (done s hs)
 ·have hn := of_decide_eq_false hn
  rw [if_neg hn] at hc1
  refine ⟨by omega, fun _ => ?_⟩
  have e1 : (idxB (fun x : Ev => decide (tm < x.entry)) l).toNat = cutE l tm := by omega
  refine ⟨l.take (cutE l tm), ⟨⟨⟨by rw [e1, List.length_take]; omega, rfl, by have := yD hc2; rw [e1]; simpa using this⟩, trivial⟩, by rw [List.length_take]; omega, hlp⟩, fun _ => ⟨Option.isSome_iff_exists.1 hpt, fun s hs => ?_⟩, fun g => by rw [hpt] at g; cases g⟩
  refine zc.weak (S := wy s.lat 0) (H := qC s.lat d [] []) ⟨by simp [wy], by simp [qC, fxS, chS, za], by kernel_rfl, by simp [qC]⟩ (done s hs)
end Go.Proofs.Tryz
end

/- The store: View, Past, Trail; the example. -/
section
set_option maxRecDepth 100000
open Go Go.Sx Go.Proofs Go.Nov
namespace Go.Proofs.Tryz
attribute [local simp] eqKV eqA eqA0 eqH eqB eqL eqL0
noncomputable def K9 : List Go.Sx.Item := [.code (Tryz.f9.body.getD .skip)]
theorem retE {ctr : Ctr} {Q : AV × Heap → Prop} {h : Heap} {f : List Fx} {c : List Ch} {z : Int} (hf : ctr.fresh = false) (hq : Q (.tup [envA f c, .int .i64 z], [])) : RetR ctr 0 Q [.agg [.sl f.length 3 (fxG f), .sl c.length 4 (chG c)], .int .i64 z] h :=
 RetR.out0 hq (fun g => by rw [hf] at g; cases g) (by simp [resV, exp2, exp1, exp0, ren0, eqA2, eqL1, envA, fxS, chS, za])
theorem retN {ctr : Ctr} {Q : AV × Heap → Prop} {h : Heap} {z : Int} (hf : ctr.fresh = false) (hq : Q (.tup [envA [] [], .int .i64 z], [])) : RetR ctr 0 Q [.agg [.nils, .nils], .int .i64 z] h :=
 RetR.out0 hq (fun g => by rw [hf] at g; cases g) (by simp [resV, exp2, exp1, exp0, ren0, eqA2, eqL1, envA, fxS, chS])
def ze9 : Ctr := ctrP false (fun p : List Ev × Int => [.agg [evS p.1], .int .i64 p.2]) (fun p => evP p.1) (fun p r => r = zC p.1 p.2 none) (fun _ (r : EnvL × Int) => (.tup [envA r.1.1 r.1.2, .int .i64 r.2], []))
noncomputable def GVw : Nat → Option Ctr := fun f => if f = 14 then some (knVC) else none
theorem zfx : ∀ g c, GVw g = some c → ze Tryz.prog g c := okIf zg6 (zn)
theorem zcg : ze Tryz.prog 5 ze9 := by
 refine zh (fn := Tryz.f5) (c := Tryz.f5.body.getD .skip) rfl rfl rfl fun p hp O w0 Q hq => ?_
 obtain ⟨l, tm⟩ := p
 replace hq := hq _ rfl
 refine zc.run hmix zfx [] 400 (T := .ex (fun (x : List Ev × Int) => eqL [AV.agg [AV.sl l.length 9 (evG l)], AV.int .i64 tm, AV.fn 15 [] []] [AV.agg [AV.sl x.1.length 9 (evG x.1)], AV.int .i64 x.2, AV.fn 15 [] []] ∧ evP x.1) fun n => .all (fun (r : EnvL × Int) => r = zC n.1 n.2 none) fun n => .leaf (.ret [.agg [.sl n.1.1.length 3 (fxG n.1.1), .sl n.1.2.length 4 (chG n.1.2)], .int .i64 n.2] [.box [.sl l.length 9 (evG l)], .box [.sl n.1.1.length 3 (fxG n.1.1), .sl n.1.2.length 4 (chG n.1.2)]])) (by kernel_rfl) ?_
 simp only [Tree.holds, zd]
 refine ⟨(l, tm), ⟨by simp [evS, za], hp⟩, ⟨_, rfl⟩, ?_⟩
 rintro _ rfl
 exact retE rfl hq
def ze5 : Ctr := ctrP false (fun p : List Ev × Int × Int => [.agg [evS p.1], .int .i64 p.2.1, .int .i64 p.2.2]) (fun p => evP p.1) (fun p r => r = xv p.1 p.2.1 p.2.2) (fun _ (r : EnvL × Int) => (.tup [envA r.1.1 r.1.2, .int .i64 r.2], []))
noncomputable def GPs : Nat → Option Ctr := fun f => if f = 14 then some (knPC) else none
theorem zg7 : ∀ g c, GPs g = some c → ze Tryz.prog g c := okIf zfp (zn)
theorem zce : ze Tryz.prog 7 ze5 := by
 refine zh (fn := Tryz.f7) (c := Tryz.f7.body.getD .skip) rfl rfl rfl fun p hp O w0 Q hq => ?_
 obtain ⟨l, tm, d⟩ := p
 replace hq := hq _ rfl
 refine zc.run hmix zg7 [] 400 (T := .ex (fun (x : List Ev × Int × Int) => eqL [AV.agg [AV.sl l.length 9 (evG l)], AV.int .i64 tm, AV.fn 16 [] [AV.ptr 0 0]] [AV.agg [AV.sl x.1.length 9 (evG x.1)], AV.int .i64 x.2.1, AV.fn 16 [] [AV.ptr 0 0]] ∧ eqH [.box [AV.int .i64 d]] [.box [AV.int .i64 x.2.2]] ∧ 1 = 1 ∧ evP x.1) fun n => .all (fun (r : EnvL × Int) => r = zC n.1 n.2.1 (some n.2.2)) fun n_1 => .ite (bif decide (n_1.2 = 0) then bif decide (n.2.2 < 0) then true else decide ((99999 : Int) < n.2.2) else false) (.leaf (.ret [.agg [.nils, .nils], .int .i64 2] [.box [.sl l.length 9 (evG l)], .box [.int .i64 n.2.2], .box [.nils, .nils], .box [.sl n_1.1.1.length 3 (fxG n_1.1.1), .sl n_1.1.2.length 4 (chG n_1.1.2)]])) (.leaf (.ret [.agg [.sl n_1.1.1.length 3 (fxG n_1.1.1), .sl n_1.1.2.length 4 (chG n_1.1.2)], .int .i64 n_1.2] [.box [.sl l.length 9 (evG l)], .box [.int .i64 n.2.2], .box [.sl n_1.1.1.length 3 (fxG n_1.1.1), .sl n_1.1.2.length 4 (chG n_1.1.2)], .box [.sl n_1.1.1.length 3 (fxG n_1.1.1), .sl n_1.1.2.length 4 (chG n_1.1.2)]]))) (by kernel_rfl) ?_
 simp only [Tree.holds, zd]
 simp only [bifO, bifA]
 refine ⟨(l, tm, d), ⟨by simp [evS, za], by simp, trivial, hp⟩, ⟨_, rfl⟩, ?_⟩
 intro r hr
 replace hr : r = zC l tm (some d) := hr
 have e : xv l tm d = if r.2 = 0 ∧ (d < 0 ∨ 99999 < d) then (([], []), 2) else r := by unfold xv; rw [← hr]
 simp only [e] at hq
 dsimp only
 refine ⟨fun h => ?_, fun h => ?_⟩
 ·have h : r.2 = 0 ∧ (d < 0 ∨ 99999 < d) := by simpa using h
  rw [if_pos h] at hq
  exact retN rfl hq
 ·have h : ¬ (r.2 = 0 ∧ (d < 0 ∨ 99999 < d)) := by
   intro g
   have : (decide (r.2 = 0) && (decide (d < 0) || decide (99999 < d))) = true := by simpa using g
   rw [this] at h; cases h
  rw [if_neg h] at hq
  exact retE rfl hq
def STl (l : List Ev) (id : Int) (i n : Nat) : KV := [(1, .int .i64 id), (6, .osl 1 1 0 n), (24, evS l), (25, .int .i64 (l.length : Int)), (26, .int .i64 i)]
def VI : Ctr := ctrP true (fun p : List Ev × Int => [.agg [evS p.1], .int .i64 p.2]) (fun p => evP p.1) (fun p r => r = ja p.1 p.2) (fun _ (r : List Int × Int) => (.tup [intS r.1, .int .i64 r.2], []))
noncomputable def GTl : Nat → Option Ctr := fun f => if f = 22 then some (yT) else none
theorem zby : ∀ g c, GTl g = some c → ze Tryz.prog g c := okIf u5 (zn)
theorem U8 : ze Tryz.prog 9 VI := by
 refine zh (fn := Tryz.f9) (c := Tryz.f9.body.getD .skip) rfl rfl rfl fun p hp O w0 Q hq => ?_
 obtain ⟨l, id⟩ := p
 replace hq := hq _ rfl
 refine zc.run hmix zby [1, 6, 24, 25, 26] 400 (T := .ex (fun (x : List Ev) => eqL [AV.agg [AV.sl l.length 9 (evG l)]] [AV.agg [AV.sl x.length 9 (evG x)]] ∧ evP x) fun n => .all (fun (r : Int) => r = if Option.isSome (SS.play { evs := [], lat := [] } n) = true then (0 : Int) else (8 : Int)) fun n => .ite (!decide (n = 0)) (.leaf (.ret [.nils, .int .i64 8] [.box [.sl l.length 9 (evG l)]])) (.ite (bif decide (id < 1) then true else decide ((↑l.length : Int) < id)) (.leaf (.ret [.nils, .int .i64 6] [.box [.sl l.length 9 (evG l)]])) (.leaf (.loop (Prod.fst (lps K9 0)) (Prod.snd (lps K9 0)) [(1, .int .i64 id), (6, .osl 1 1 0 1), (24, .sl l.length 9 (evG l)), (25, .int .i64 l.length), (26, .int .i64 0)] [.box [.sl l.length 9 (evG l)], .arr 1 1 (zf 1 [.int .i64 id])])))) (by kernel_rfl) ?_
 simp only [Tree.holds, zd]
 simp only [bifO]
 have hl1 : l.length < 2 ^ 40 := hp.1
 have bad : ∀ (z : Int) (h : Heap), ja l id = ([], z) → RetR VI 0 Q [.nils, .int .i64 z] h := fun z h hr => by
  simp only [hr] at hq
  exact RetR.out0 hq (fun _ => by simp [resV, new2, new1, new0, zD]) (by simp [resV, exp2, exp1, exp0, ren0, eqA2, eqL1, intS])
 refine ⟨l, ⟨by simp [evS, za], hp⟩, ⟨_, rfl⟩, ?_⟩
 rintro _ rfl
 refine ⟨fun h => bad _ _ ?_, fun h => ⟨fun h2 => bad _ _ ?_, fun h2 => ?_⟩⟩
 ·unfold ja
  rw [if_pos]
  cases hs : (SS.play ⟨[], []⟩ l).isSome with
  | false => rfl
  | true => rw [hs] at h; simp at h
 ·have hv : (SS.play ⟨[], []⟩ l).isSome = true := by
   cases hs : (SS.play ⟨[], []⟩ l).isSome with
   | true => rfl
   | false => rw [hs] at h; simp at h
  unfold ja
  rw [if_neg (by rw [hv]; decide), if_pos (by simpa using h2)]
 have hv : (SS.play ⟨[], []⟩ l).isSome = true := by
  cases hs : (SS.play ⟨[], []⟩ l).isSome with
  | true => rfl
  | false => rw [hs] at h; simp at h
 have hr : ja l id = (idsT l id l.length, 0) := by
  unfold ja idsT
  rw [if_neg (by rw [hv]; decide), if_neg (by simpa using h2), List.take_length]
 simp only [hr] at hq
 refine zc.loop (ι := {i : Nat // i ≤ l.length}) (fun i => STl l id i.1 (idsT l id i.1).length) (fun i => [.dead, .arr (idsT l id i.1).length 1 (intG (idsT l id i.1))]) (fun i => l.length - i.1) ⟨0, Nat.zero_le _⟩ 0 ?_ ?_ (by kernel_rfl)
 ·refine ⟨by simp [STl, evS, za, idsT], ⟨trivial, ⟨by simp [idsT], rfl, ?_⟩, trivial⟩, by kernel_rfl, Nat.zero_le _⟩
  intro j o hj ho
  obtain rfl : j = 0 := by omega
  obtain rfl : o = 0 := by omega
  rfl
 ·rintro ⟨i, hil⟩
  obtain ⟨m, hm⟩ : ∃ m, m = idsT l id i := ⟨_, rfl⟩
  have hml := W0 l id i
  simp only [← hm] at hml ⊢
  refine zc.run hmix zby [1, 6, 24, 25, 26] 400 (T := .ite (decide ((↑i : Int) < l.length)) (.side ((0 : Int) ≤ i ∧ (↑i : Int) < l.length) (.ite (decide (Ev.target (List.getD l (Int.toNat (↑i : Int)) Ev.nil) = id)) (.side (0 = 0 ∧ m.length ≤ m.length ∧ (m.length + 1) * 8 ≤ 140737488355328) (.side (inR .i64 ((↑i : Int) + (1 : Int))) (.leaf (.back 0 [(1, .int .i64 id), (6, .osl 1 1 0 (m.length + 1)), (24, .sl l.length 9 (evG l)), (25, .int .i64 l.length), (26, .int .i64 ((↑i : Int) + (1 : Int)))] [.dead, .arr (m.length + 1) 1 (appG m.length (intG m) (zg (zf 1 [.int .i64 (Ev.id (List.getD l (Int.toNat (↑i : Int)) Ev.nil))]) 0)), .box [.int .u8 (Ev.kind (List.getD l (Int.toNat (↑i : Int)) Ev.nil)), .int .i64 (Ev.id (List.getD l (Int.toNat (↑i : Int)) Ev.nil)), .int .i64 (Ev.entry (List.getD l (Int.toNat (↑i : Int)) Ev.nil)), .int .i64 (Ev.target (List.getD l (Int.toNat (↑i : Int)) Ev.nil)), .int .i64 (Ev.date (List.getD l (Int.toNat (↑i : Int)) Ev.nil)), .str (Ev.zb (List.getD l (Int.toNat (↑i : Int)) Ev.nil)), .str (Ev.name (List.getD l (Int.toNat (↑i : Int)) Ev.nil)), .str (Ev.value (List.getD l (Int.toNat (↑i : Int)) Ev.nil)), .bool (Ev.first (List.getD l (Int.toNat (↑i : Int)) Ev.nil))], .arr 1 1 (zf 1 [.int .i64 (Ev.id (List.getD l (Int.toNat (↑i : Int)) Ev.nil))])])))) (.side (inR .i64 ((↑i : Int) + (1 : Int))) (.leaf (.back 0 [(1, .int .i64 id), (6, .osl 1 1 0 m.length), (24, .sl l.length 9 (evG l)), (25, .int .i64 l.length), (26, .int .i64 ((↑i : Int) + (1 : Int)))] [.dead, .arr m.length 1 (intG m), .box [.int .u8 (Ev.kind (List.getD l (Int.toNat (↑i : Int)) Ev.nil)), .int .i64 (Ev.id (List.getD l (Int.toNat (↑i : Int)) Ev.nil)), .int .i64 (Ev.entry (List.getD l (Int.toNat (↑i : Int)) Ev.nil)), .int .i64 (Ev.target (List.getD l (Int.toNat (↑i : Int)) Ev.nil)), .int .i64 (Ev.date (List.getD l (Int.toNat (↑i : Int)) Ev.nil)), .str (Ev.zb (List.getD l (Int.toNat (↑i : Int)) Ev.nil)), .str (Ev.name (List.getD l (Int.toNat (↑i : Int)) Ev.nil)), .str (Ev.value (List.getD l (Int.toNat (↑i : Int)) Ev.nil)), .bool (Ev.first (List.getD l (Int.toNat (↑i : Int)) Ev.nil))]]))))) (.leaf (.ret [.osl 1 1 0 m.length, .int .i64 0] [.dead, .arr m.length 1 (intG m)]))) (by kernel_rfl) ?_
  simp only [Tree.holds, zd, inR, lo, hi, Int.toNat_natCast, Nat.zero_add]
  refine ⟨fun hlt => ?_, fun hge => ?_⟩
  ·have hlt : i < l.length := by have := of_decide_eq_true hlt; omega
   have hs := QD (id := id) hlt
   refine ⟨by omega, fun _ => ⟨fun h => ⟨⟨trivial, Nat.le_refl _, by omega⟩, fun _ => ⟨by omega, fun _ => ?_⟩⟩, fun h => ⟨by omega, fun _ => ?_⟩⟩⟩
   ·rw [if_pos trivial]
    rw [if_pos (of_decide_eq_true h), ← hm] at hs
    refine ⟨⟨i + 1, hlt⟩, by show l.length - (i + 1) < l.length - i; omega, ⟨by simp [STl, evS, za, hs], ⟨trivial, ⟨by simp [hs], rfl, ?_⟩, trivial⟩, by kernel_rfl, Nat.zero_le _⟩⟩
    simp only [hs]
    exact Wx (za _ _ _)
   ·rw [if_pos trivial]
    rw [if_neg (of_decide_eq_false h), ← hm] at hs
    refine ⟨⟨i + 1, hlt⟩, by show l.length - (i + 1) < l.length - i; omega, ⟨by simp [STl, evS, za, hs], by simp [hs, za], by kernel_rfl, Nat.zero_le _⟩⟩
  ·have hge : i = l.length := by have := of_decide_eq_false hge; omega
   rw [← hge, ← hm] at hq
   refine RetR.out0 hq (fun _ => ?_) ?_
   ·simp only [resV, new2, List.mem_cons, List.not_mem_nil, or_false, forall_eq_or_imp, forall_eq, new1, new0]
    exact ⟨fun _ => by simp only [exp0, zq, frz1, qw, List.getElem?_cons_succ, List.getElem?_cons_zero, if_true, uH]; exact fun j o hj ho => rfl, rfl⟩
   ·simp [resV, exp2, exp1, exp0, zq, frz1, qw, ren0, eqA2, eqL1, intS]
    exact fun j o hj ho => by simp [zg, intG]
end Go.Proofs.Tryz
end

/- The chapter's example. -/
section
namespace Go.Nov
end Go.Nov
end

/- The reference's store: what it accepts. -/
section
set_option maxRecDepth 100000
open Go Go.Sx Go.Proofs Go.Nov
namespace Go.Proofs.Tryz
attribute [local simp] eqKV eqA eqA0 eqH eqB eqL eqL0
noncomputable def K32 : List Go.Sx.Item := [.code (Tryz.f32.body.getD .skip)]
noncomputable def K28 : List Go.Sx.Item := [.code (Tryz.f28.body.getD .skip)]
noncomputable def K17 : List Go.Sx.Item := [.code (Tryz.f17.body.getD .skip)]
def Uf : Ctr := ctrP true (fun e : Ev => [e.av]) (fun _ => True) (fun e r => r = e.fact) (fun _ (r : Bool) => (.bool r, []))
theorem W5 : ze Tryz.prog 31 Uf := by
 refine zh (fn := Tryz.f31) (c := Tryz.f31.body.getD .skip) rfl rfl rfl fun e hp O w0 Q hq => ?_
 replace hq := hq _ rfl
 refine zc.run hmix zr [] 400 (T := .leaf (.ret [.bool (bif decide (Ev.kind e = 1) then true else decide (Ev.kind e = 2))] [.box [.int .u8 e.kind, .int .i64 e.id, .int .i64 e.entry, .int .i64 e.target, .int .i64 e.date, .str e.zb, .str e.name, .str e.value, .bool e.first]])) (by kernel_rfl) ?_
 simp only [Tree.holds, zd]
 refine RetR.scal hq rfl ?_
 simp only [resV, Ev.fact]
 cases decide (e.kind = 1) <;> rfl
def KP : Ctr := ctrP true (fun p : Ev × Ev => [p.1.av, p.2.av]) (fun _ => True) (fun p r => r = yl p.1 p.2) (fun _ (r : Bool) => (.bool r, []))
theorem zan : ze Tryz.prog 45 KP := by
 refine zh (fn := Tryz.f45) (c := Tryz.f45.body.getD .skip) rfl rfl rfl fun p hp O w0 Q hq => ?_
 obtain ⟨a, b⟩ := p
 replace hq := hq _ rfl
 refine zc.run hmix zr [] 400 (T := .leaf (.ret [.bool (bif bif bif decide (Ev.kind a = Ev.kind b) then decide (Ev.zb a = Ev.zb b) else false then decide (Ev.name a = Ev.name b) else false then decide (Ev.date a = Ev.date b) else false)] [.box [.int .u8 a.kind, .int .i64 a.id, .int .i64 a.entry, .int .i64 a.target, .int .i64 a.date, .str a.zb, .str a.name, .str a.value, .bool a.first], .box [.int .u8 b.kind, .int .i64 b.id, .int .i64 b.entry, .int .i64 b.target, .int .i64 b.date, .str b.zb, .str b.name, .str b.value, .bool b.first]])) (by kernel_rfl) ?_
 simp only [Tree.holds, zd]
 refine RetR.scal hq rfl ?_
 simp only [resV, yl, vU]
def Ux : Ctr := ctrP true (fun p : List Ev × Int => [evS p.1, .int .i64 p.2]) (fun p => p.1.length < 2 ^ 40) (fun p r => r = zY p.1 p.2) (fun _ (r : Bool) => (.bool r, []))
def SCn (l : List Ev) (id : Int) (i : Nat) : KV := [(0, evS l), (1, .int .i64 id), (5, .int .i64 i), (19, .undef), (20, .undef), (21, .undef), (22, .undef), (23, .undef), (24, .undef), (25, .undef)]
theorem KS : ze Tryz.prog 32 Ux := by
 refine zh (fn := Tryz.f32) (c := Tryz.f32.body.getD .skip) rfl rfl rfl fun p hp O w0 Q hq => ?_
 obtain ⟨l, id⟩ := p
 replace hq := hq _ rfl
 simp only at hq hp
 refine zc.run hmix zr [0, 1, 5, 19, 20, 21, 22, 23, 24, 25] 400 (T := .leaf (.loop (Prod.fst (lps K32 0)) (Prod.snd (lps K32 0)) [(0, .sl l.length 9 (evG l)), (1, .int .i64 id), (5, .int .i64 0), (19, .undef), (20, .undef), (21, .undef), (22, .undef), (23, .undef), (24, .undef), (25, .undef)] [])) (by kernel_rfl) ?_
 simp only [Tree.holds, zd]
 refine zc.loop (ι := {i : Nat // i ≤ l.length ∧ ∀ j, j < i → (decide ((l.getD j Ev.nil).kind = 5) && decide ((l.getD j Ev.nil).target = id)) = false}) (fun i => SCn l id i.1) (fun _ => []) (fun i => l.length - i.1) ⟨0, Nat.zero_le _, fun j hj => by omega⟩ 0 ?_ ?_ (by kernel_rfl)
 ·exact ⟨by simp [SCn, evS, za], by simp, by kernel_rfl, Nat.zero_le _⟩
 ·rintro ⟨i, hil, hbe⟩
  refine zc.run hmix zr [0, 1, 5, 19, 20, 21, 22, 23, 24, 25] 400 (T := .ite (decide ((↑i : Int) < l.length)) (.side ((0 : Int) ≤ i ∧ (↑i : Int) < l.length) (.side (decide (Ev.kind (List.getD l (Int.toNat (↑i : Int)) Ev.nil) = (5 : Int)) = true → (0 : Int) ≤ i ∧ (↑i : Int) < l.length) (.ite (bif decide (Ev.kind (List.getD l (Int.toNat (↑i : Int)) Ev.nil) = (5 : Int)) then decide (Ev.target (List.getD l (Int.toNat (↑i : Int)) Ev.nil) = id) else false) (.leaf (.ret [.bool true] [])) (.side (inR .i64 ((↑i : Int) + (1 : Int))) (.leaf (.back 0 [(0, .sl l.length 9 (evG l)), (1, .int .i64 id), (5, .int .i64 ((↑i : Int) + (1 : Int))), (19, .undef), (20, .undef), (21, .undef), (22, .undef), (23, .undef), (24, .undef), (25, .undef)] [])))))) (.leaf (.ret [.bool false] []))) (by kernel_rfl) ?_
  simp only [Tree.holds, zd, Int.toNat_natCast, inR, lo, hi, vU]
  refine ⟨fun h => ?_, fun h => ?_⟩
  ·have hlt : i < l.length := by have := of_decide_eq_true h; omega
   refine ⟨by omega, fun _ => ⟨fun _ => by omega, fun _ => ⟨fun h => ?_, fun h => ⟨by omega, fun _ => ?_⟩⟩⟩⟩
   ·refine RetR.scal hq rfl ?_
    have : zY l id = true := List.any_eq_true.2 ⟨_, List.getElem_mem hlt, by rw [← zK (z := Ev.nil) hlt]; exact h⟩
    rw [this]; rfl
   ·rw [if_pos trivial]
    refine ⟨⟨i + 1, hlt, fun j hj => ?_⟩, by show l.length - (i + 1) < l.length - i; omega, ⟨by simp [SCn, evS, za], by simp, by kernel_rfl, Nat.zero_le _⟩⟩
    by_cases e : j = i
    ·rw [e]; exact h
    ·exact hbe j (by omega)
  ·have hge : i = l.length := by have := of_decide_eq_false h; omega
   subst hge
   refine RetR.scal hq rfl ?_
   have : zY l id = false := by
    unfold zY
    rw [← Yc (z := Ev.nil)]
    rw [List.any_eq_false]
    intro j hj
    rw [hbe j (List.mem_range.1 hj)]; decide
   rw [this]; rfl
theorem zb0 (x y : Bool) : (bif x then true else y) = (x || y) := by cases x <;> rfl
def SAc (l : List Ev) (i : Nat) : KV := [(0, evS l), (3, .ptr 0 0), (5, .int .i64 l.length), (7, .int .i64 i), (93, .undef), (94, .undef), (95, .undef), (96, .undef), (97, .undef)]
def accC : Ctr := ctrP true (fun p : List Ev × Ev => [evS p.1, p.2.av]) (fun p => p.1.length < 2 ^ 40 ∧ z7 p.2) (fun p r => r = accR p.1 p.2) (fun _ (r : Int) => (.int .i64 r, []))
noncomputable def GAc : Nat → Option Ctr := fun f => if f = 31 then some (Uf) else if f = 45 then some (KP) else if f = 32 then some (Ux) else if f = 44 then some (VO) else none
theorem UX : ∀ g c, GAc g = some c → ze Tryz.prog g c := okIf W5 (okIf zan (okIf KS (okIf UU (zn))))
theorem zft : ze Tryz.prog 28 accC := by
 refine zh (fn := Tryz.f28) (c := Tryz.f28.body.getD .skip) rfl rfl rfl fun p hp O w0 Q hq => ?_
 obtain ⟨l, e⟩ := p
 replace hq := hq _ rfl
 simp only at hq hp
 refine zc.run hmix UX [0, 3, 5, 7, 93, 94, 95, 96, 97] 400 (T := .ex (fun (x : Ev) => eqL [AV.agg [AV.int .u8 e.kind, AV.int .i64 e.id, AV.int .i64 e.entry, AV.int .i64 e.target, AV.int .i64 e.date, AV.str e.zb, AV.str e.name, AV.str e.value, AV.bool e.first]] [AV.agg [AV.int .u8 x.kind, AV.int .i64 x.id, AV.int .i64 x.entry, AV.int .i64 x.target, AV.int .i64 x.date, AV.str x.zb, AV.str x.name, AV.str x.value, AV.bool x.first]] ∧ z7 x) fun n => .all (fun (r : Bool) => r = Ev.valid n) fun n => .side ((!n) = false → inR .i64 ((↑l.length : Int) + (1 : Int))) (.ite (bif !n then true else !decide (Ev.id e = (↑l.length : Int) + (1 : Int))) (.leaf (.ret [.int .i64 2] [.box [.int .u8 e.kind, .int .i64 e.id, .int .i64 e.entry, .int .i64 e.target, .int .i64 e.date, .str e.zb, .str e.name, .str e.value, .bool e.first]])) (.side (decide ((0 : Int) < l.length) = true → inR .i64 ((↑l.length : Int) - (1 : Int))) (.side (decide ((0 : Int) < l.length) = true → (0 : Int) ≤ l.length - (1 : Int) ∧ (↑l.length : Int) - (1 : Int) < l.length) (.ite (bif decide ((0 : Int) < l.length) then decide (Ev.entry e < Ev.entry (List.getD l (Int.toNat ((↑l.length : Int) - (1 : Int))) Ev.nil)) else false) (.leaf (.ret [.int .i64 21] [.box [.int .u8 e.kind, .int .i64 e.id, .int .i64 e.entry, .int .i64 e.target, .int .i64 e.date, .str e.zb, .str e.name, .str e.value, .bool e.first]])) (.ite (decide ((1000 : Int) ≤ l.length)) (.leaf (.ret [.int .i64 22] [.box [.int .u8 e.kind, .int .i64 e.id, .int .i64 e.entry, .int .i64 e.target, .int .i64 e.date, .str e.zb, .str e.name, .str e.value, .bool e.first]])) (.ex (fun (x : Ev) => eqL [AV.agg [AV.int .u8 e.kind, AV.int .i64 e.id, AV.int .i64 e.entry, AV.int .i64 e.target, AV.int .i64 e.date, AV.str e.zb, AV.str e.name, AV.str e.value, AV.bool e.first]] [AV.agg [AV.int .u8 x.kind, AV.int .i64 x.id, AV.int .i64 x.entry, AV.int .i64 x.target, AV.int .i64 x.date, AV.str x.zb, AV.str x.name, AV.str x.value, AV.bool x.first]] ∧ True) fun n => .all (fun (r : Bool) => r = Ev.fact n) fun n => .ite (!n) (.side (decide ((↑l.length : Int) < Ev.target e) = false → inR .i64 (Ev.target e - (1 : Int))) (.side (decide ((↑l.length : Int) < Ev.target e) = false → (0 : Int) ≤ Ev.target e - (1 : Int) ∧ Ev.target e - (1 : Int) < l.length) (.ex (fun (x : Ev) => decide ((↑l.length : Int) < Ev.target e) = false → eqL [AV.agg [AV.int .u8 (Ev.kind (List.getD l (Int.toNat (Ev.target e - (1 : Int))) Ev.nil)), AV.int .i64 (Ev.id (List.getD l (Int.toNat (Ev.target e - (1 : Int))) Ev.nil)), AV.int .i64 (Ev.entry (List.getD l (Int.toNat (Ev.target e - (1 : Int))) Ev.nil)), AV.int .i64 (Ev.target (List.getD l (Int.toNat (Ev.target e - (1 : Int))) Ev.nil)), AV.int .i64 (Ev.date (List.getD l (Int.toNat (Ev.target e - (1 : Int))) Ev.nil)), AV.str (Ev.zb (List.getD l (Int.toNat (Ev.target e - (1 : Int))) Ev.nil)), AV.str (Ev.name (List.getD l (Int.toNat (Ev.target e - (1 : Int))) Ev.nil)), AV.str (Ev.value (List.getD l (Int.toNat (Ev.target e - (1 : Int))) Ev.nil)), AV.bool (Ev.first (List.getD l (Int.toNat (Ev.target e - (1 : Int))) Ev.nil))]] [AV.agg [AV.int .u8 x.kind, AV.int .i64 x.id, AV.int .i64 x.entry, AV.int .i64 x.target, AV.int .i64 x.date, AV.str x.zb, AV.str x.name, AV.str x.value, AV.bool x.first]] ∧ True) fun n => .all (fun (x : Bool) => decide ((↑l.length : Int) < Ev.target e) = false → x = Ev.fact n) fun n => .ex (fun (x : List Ev × Int) => (bif decide ((↑l.length : Int) < Ev.target e) then true else !n) = false → eqL [AV.sl l.length 9 (evG l), AV.int .i64 e.target] [AV.sl x.1.length 9 (evG x.1), AV.int .i64 x.2] ∧ x.1.length < 1099511627776) fun n_1 => .all (fun (x : Bool) => (bif decide ((↑l.length : Int) < Ev.target e) then true else !n) = false → x = zY n_1.1 n_1.2) fun n_2 => .ite (bif bif decide ((↑l.length : Int) < Ev.target e) then true else !n then true else n_2) (.leaf (.ret [.int .i64 6] [.box [.int .u8 e.kind, .int .i64 e.id, .int .i64 e.entry, .int .i64 e.target, .int .i64 e.date, .str e.zb, .str e.name, .str e.value, .bool e.first]])) (.side (inR .i64 (Ev.target e - (1 : Int))) (.side ((0 : Int) ≤ Ev.target e - (1 : Int) ∧ Ev.target e - (1 : Int) < l.length) (.ite (bif bif decide (Ev.kind e = 3) then decide (Ev.kind (List.getD l (Int.toNat (Ev.target e - (1 : Int))) Ev.nil) = (2 : Int)) else false then true else bif decide (Ev.kind e = 4) then decide (Ev.kind (List.getD l (Int.toNat (Ev.target e - (1 : Int))) Ev.nil) = (1 : Int)) else false) (.leaf (.ret [.int .i64 32] [.box [.int .u8 e.kind, .int .i64 e.id, .int .i64 e.entry, .int .i64 e.target, .int .i64 e.date, .str e.zb, .str e.name, .str e.value, .bool e.first]])) (.leaf (.ret [.int .i64 0] [.box [.int .u8 e.kind, .int .i64 e.id, .int .i64 e.entry, .int .i64 e.target, .int .i64 e.date, .str e.zb, .str e.name, .str e.value, .bool e.first]])))))))) (.leaf (.loop (Prod.fst (lps K28 0)) (Prod.snd (lps K28 0)) [(0, .sl l.length 9 (evG l)), (3, .ptr 0 0), (5, .int .i64 l.length), (7, .int .i64 0), (93, .undef), (94, .undef), (95, .undef), (96, .undef), (97, .undef)] [.box [.int .u8 e.kind, .int .i64 e.id, .int .i64 e.entry, .int .i64 e.target, .int .i64 e.date, .str e.zb, .str e.name, .str e.value, .bool e.first]]))))))))) (by kernel_rfl) ?_
 simp only [Tree.holds, zd]
 obtain ⟨hl, he⟩ := hp
 have fin : ∀ (z : Int) (h : Heap), accR l e = z → RetR accC 0 Q [.int .i64 z] h := by
  rintro z h rfl
  exact RetR.scal hq rfl rfl
 simp only [inR, lo, hi, vU, zb0]
 have ei : ∀ t : Int, (t - 1).toNat = t.toNat - 1 := fun t => by omega
 simp only [ei]
 refine ⟨e, ⟨by simp [Ev.av], he⟩, ⟨_, rfl⟩, ?_⟩
 rintro _ rfl
 refine ⟨fun _ => by omega, fun _ => ⟨fun h => ?_, fun h => ?_⟩⟩
 ·refine fin _ _ ?_
  unfold accR
  rw [if_pos]
  cases hv : e.valid with
  | false => exact .inl rfl
  | true => rw [hv] at h; right; simpa using h
 have h2 : ¬ (e.valid = false ∨ e.id ≠ l.length + 1) := by
  cases hv : e.valid with
  | false => rw [hv] at h; simp at h
  | true => rw [hv] at h; simpa using h
 clear h
 have hv : e.valid = true := by
  cases hv : e.valid
  ·exact absurd (.inl hv) h2
  ·rfl
 refine ⟨fun g => by have := of_decide_eq_true g; omega, fun _ => ⟨fun g => by have := of_decide_eq_true g; omega, fun _ => ⟨fun h => ?_, fun h => ?_⟩⟩⟩
 ·refine fin _ _ ?_
  unfold accR
  rw [if_neg h2, if_pos]
  rw [Bool.and_eq_true, decide_eq_true_eq, decide_eq_true_eq] at h
  rw [show ((l.length : Int)).toNat - 1 = l.length - 1 by omega] at h
  exact ⟨by omega, h.2⟩
 have h21 : ¬ (0 < l.length ∧ e.entry < (l.getD (l.length - 1) Ev.nil).entry) := by
  rw [Bool.and_eq_false_iff, decide_eq_false_iff_not, decide_eq_false_iff_not] at h
  rw [show ((l.length : Int)).toNat - 1 = l.length - 1 by omega] at h
  rintro ⟨g1, g2⟩
  rcases h with h | h
  ·omega
  ·exact h g2
 clear h
 refine ⟨fun h => ?_, fun h => ?_⟩
 ·refine fin _ _ ?_
  unfold accR
  rw [if_neg h2, if_neg h21, if_pos]
  have := of_decide_eq_true h
  omega
 have h22 : ¬ 1000 ≤ l.length := by have := of_decide_eq_false h; omega
 clear h
 refine ⟨e, ⟨by simp [Ev.av], trivial⟩, ⟨_, rfl⟩, ?_⟩
 rintro _ rfl
 refine ⟨fun hf => ?_, fun hf => ?_⟩
 ·have hf : e.fact = false := by simpa using hf
  have ht : 1 ≤ e.target := Qm hv hf
  have key : accR l e = if (l.length : Int) < e.target ∨ (l.getD (e.target.toNat - 1) Ev.nil).fact = false ∨ zY l e.target = true then 6
   else if e.kind = 3 ∧ (l.getD (e.target.toNat - 1) Ev.nil).kind = 2 ∨ e.kind = 4 ∧ (l.getD (e.target.toNat - 1) Ev.nil).kind = 1 then 32 else 0 := by
   unfold accR; rw [if_neg h2, if_neg h21, if_neg h22, if_pos hf]
  generalize hx : l.getD (e.target.toNat - 1) Ev.nil = x at key
  refine ⟨fun g => by have := of_decide_eq_false g; omega, fun _ => ⟨fun g => by have := of_decide_eq_false g; omega, fun _ => ?_⟩⟩
  refine ⟨x, fun _ => ⟨by simp [Ev.av], trivial⟩, ⟨_, fun _ => rfl⟩, ?_⟩
  intro b1 hb1
  refine ⟨(l, e.target), fun _ => ⟨by simp [za], hl⟩, ⟨_, fun _ => rfl⟩, ?_⟩
  intro b2 hb2
  have hc : (decide ((l.length : Int) < e.target) || !b1 || b2) = true ↔ (l.length : Int) < e.target ∨ x.fact = false ∨ zY l e.target = true := by
   cases hd : decide ((l.length : Int) < e.target) with
   | true => simpa using Or.inl (of_decide_eq_true hd)
   | false =>
    rw [hd] at hb1 hb2
    have hd := of_decide_eq_false hd
    rw [hb1 rfl] at hb2 ⊢
    cases hxf : x.fact with
    | false => simp
    | true =>
     rw [hxf] at hb2
     rw [hb2 rfl]
     simp only [Bool.false_or, Bool.not_true]
     exact ⟨fun h => .inr (.inr h), fun h => h.elim (fun h => absurd h hd) fun h => h.elim (fun h => by cases h) id⟩
  refine ⟨fun h => ?_, fun h => ?_⟩
  ·rw [if_pos (hc.1 h)] at key
   exact fin _ _ key
  ·have hn : ¬ ((l.length : Int) < e.target ∨ x.fact = false ∨ zY l e.target = true) := fun g => by rw [hc.2 g] at h; cases h
   rw [if_neg hn] at key
   refine ⟨by omega, fun _ => ⟨by omega, fun _ => ⟨fun h => ?_, fun h => ?_⟩⟩⟩
   ·rw [if_pos] at key
    ·exact fin _ _ key
    ·simpa using h
   ·rw [if_neg] at key
    ·exact fin _ _ key
    ·intro g
     have : (decide (e.kind = 3) && decide (x.kind = 2) || decide (e.kind = 4) && decide (x.kind = 1)) = true := by simpa using g
     rw [this] at h; cases h
 ·have hf : e.fact = true := by simpa using hf
  have key : accR l e = if wJ l e l.length then 24 else 0 := by
   unfold accR; rw [if_neg h2, if_neg h21, if_neg h22, if_neg (by rw [hf]; decide)]
  refine zc.loop (ι := {i : Nat // i ≤ l.length ∧ wJ l e i = false}) (fun i => SAc l i.1) (fun _ => [.box [.int .u8 e.kind, .int .i64 e.id, .int .i64 e.entry, .int .i64 e.target, .int .i64 e.date, .str e.zb, .str e.name, .str e.value, .bool e.first]]) (fun i => l.length - i.1) ⟨0, Nat.zero_le _, rfl⟩ 0 ?_ ?_ (by kernel_rfl)
  ·exact ⟨by simp [SAc, evS, za], by simp, by kernel_rfl, Nat.zero_le _⟩
  ·rintro ⟨i, hil, hbe⟩
   refine zc.run hmix UX [0, 3, 5, 7, 93, 94, 95, 96, 97] 400 (T := .ite (decide ((↑i : Int) < l.length)) (.side ((0 : Int) ≤ i ∧ (↑i : Int) < l.length) (.ex (fun (x : Ev × Ev) => eqL [AV.agg [AV.int .u8 (Ev.kind (List.getD l (Int.toNat (↑i : Int)) Ev.nil)), AV.int .i64 (Ev.id (List.getD l (Int.toNat (↑i : Int)) Ev.nil)), AV.int .i64 (Ev.entry (List.getD l (Int.toNat (↑i : Int)) Ev.nil)), AV.int .i64 (Ev.target (List.getD l (Int.toNat (↑i : Int)) Ev.nil)), AV.int .i64 (Ev.date (List.getD l (Int.toNat (↑i : Int)) Ev.nil)), AV.str (Ev.zb (List.getD l (Int.toNat (↑i : Int)) Ev.nil)), AV.str (Ev.name (List.getD l (Int.toNat (↑i : Int)) Ev.nil)), AV.str (Ev.value (List.getD l (Int.toNat (↑i : Int)) Ev.nil)), AV.bool (Ev.first (List.getD l (Int.toNat (↑i : Int)) Ev.nil))], AV.agg [AV.int .u8 e.kind, AV.int .i64 e.id, AV.int .i64 e.entry, AV.int .i64 e.target, AV.int .i64 e.date, AV.str e.zb, AV.str e.name, AV.str e.value, AV.bool e.first]] [AV.agg [AV.int .u8 x.1.kind, AV.int .i64 x.1.id, AV.int .i64 x.1.entry, AV.int .i64 x.1.target, AV.int .i64 x.1.date, AV.str x.1.zb, AV.str x.1.name, AV.str x.1.value, AV.bool x.1.first], AV.agg [AV.int .u8 x.2.kind, AV.int .i64 x.2.id, AV.int .i64 x.2.entry, AV.int .i64 x.2.target, AV.int .i64 x.2.date, AV.str x.2.zb, AV.str x.2.name, AV.str x.2.value, AV.bool x.2.first]] ∧ True) fun n => .all (fun (r : Bool) => r = yl n.1 n.2) fun n => .side (n = true → inR .i64 ((↑i : Int) + (1 : Int))) (.ex (fun (x : List Ev × Int) => n = true → eqL [AV.sl l.length 9 (evG l), AV.int .i64 ((↑i : Int) + (1 : Int))] [AV.sl x.1.length 9 (evG x.1), AV.int .i64 x.2] ∧ x.1.length < 1099511627776) fun n_1 => .all (fun (x : Bool) => n = true → x = zY n_1.1 n_1.2) fun n_2 => .ite (bif n then !n_2 else false) (.leaf (.ret [.int .i64 24] [.box [.int .u8 e.kind, .int .i64 e.id, .int .i64 e.entry, .int .i64 e.target, .int .i64 e.date, .str e.zb, .str e.name, .str e.value, .bool e.first]])) (.side (inR .i64 ((↑i : Int) + (1 : Int))) (.leaf (.back 0 [(0, .sl l.length 9 (evG l)), (3, .ptr 0 0), (5, .int .i64 l.length), (7, .int .i64 ((↑i : Int) + (1 : Int))), (93, .undef), (94, .undef), (95, .undef), (96, .undef), (97, .undef)] [.box [.int .u8 e.kind, .int .i64 e.id, .int .i64 e.entry, .int .i64 e.target, .int .i64 e.date, .str e.zb, .str e.name, .str e.value, .bool e.first]])))))) (.leaf (.ret [.int .i64 0] [.box [.int .u8 e.kind, .int .i64 e.id, .int .i64 e.entry, .int .i64 e.target, .int .i64 e.date, .str e.zb, .str e.name, .str e.value, .bool e.first]]))) (by kernel_rfl) ?_
   simp only [Tree.holds, zd, Int.toNat_natCast, inR, lo, hi, vU]
   refine ⟨fun h => ?_, fun h => ?_⟩
   ·have hlt : i < l.length := by have := of_decide_eq_true h; omega
    have hst : wJ l e (i + 1) = (wJ l e i || (yl (l.getD i Ev.nil) e && !zY l (i + 1))) := by
     unfold wJ
     rw [List.range_succ, List.any_append]
     simp
    generalize hx : l.getD i Ev.nil = x at hst ⊢
    refine ⟨by omega, fun _ => ?_⟩
    refine ⟨(x, e), ⟨by simp [Ev.av], trivial⟩, ⟨_, rfl⟩, ?_⟩
    rintro _ rfl
    refine ⟨fun _ => by omega, fun _ => ⟨(l, (i : Int) + 1), fun _ => ⟨by simp [za], hl⟩, ⟨_, fun _ => rfl⟩, ?_⟩⟩
    intro b hb
    dsimp only at hb ⊢
    have hs : (yl x e && !b) = wJ l e (i + 1) := by
     rw [hst, hbe, Bool.false_or]
     cases hs : yl x e with
     | false => rfl
     | true => rw [hb hs]
    rw [hs]
    refine ⟨fun h => ?_, fun h => ⟨by omega, fun _ => ?_⟩⟩
    ·have : wJ l e l.length = true := by
      unfold wJ at h ⊢
      rw [List.any_eq_true] at h ⊢
      obtain ⟨j, hj, hp⟩ := h
      exact ⟨j, List.mem_range.2 (by have := List.mem_range.1 hj; omega), hp⟩
     rw [if_pos this] at key
     exact fin _ _ key
    ·rw [if_pos trivial]
     exact ⟨⟨i + 1, hlt, h⟩, by show l.length - (i + 1) < l.length - i; omega, ⟨by simp [SAc, evS, za], by simp, by kernel_rfl, Nat.zero_le _⟩⟩
   ·have hge : i = l.length := by have := of_decide_eq_false h; omega
    subst hge
    rw [hbe] at key
    exact fin _ _ key
def SVl (l : List Ev) (i : Nat) : KV := [(1, .ptr 0 0), (3, .int .i64 i)]
def JZ : Ctr := ctrP true (fun l : List Ev => [.agg [evS l]]) evP (fun l r => r = jb l) (fun _ (r : Bool) => (.bool r, []))
noncomputable def GVl : Nat → Option Ctr := fun f => if f = 28 then some (accC) else none
theorem zbo : ∀ g c, GVl g = some c → ze Tryz.prog g c := okIf zft (zn)
theorem QA : ze Tryz.prog 17 JZ := by
 refine zh (fn := Tryz.f17) (c := Tryz.f17.body.getD .skip) rfl rfl rfl fun l hp O w0 Q hq => ?_
 replace hq := hq _ rfl
 refine zc.run hmix zbo [1, 3] 400 (T := .leaf (.loop (Prod.fst (lps K17 0)) (Prod.snd (lps K17 0)) [(1, .ptr 0 0), (3, .int .i64 0)] [.box [.sl l.length 9 (evG l)]])) (by kernel_rfl) ?_
 simp only [Tree.holds, zd]
 refine zc.loop (ι := {i : Nat // i ≤ l.length ∧ ∀ j, j < i → accR (l.take j) (l.getD j Ev.nil) = 0}) (fun i => SVl l i.1) (fun _ => [.box [evS l]]) (fun i => l.length - i.1) ⟨0, Nat.zero_le _, fun j hj => by omega⟩ 0 ?_ ?_ (by kernel_rfl)
 ·exact ⟨by simp [SVl], by simp [evS, za], by kernel_rfl, Nat.zero_le _⟩
 ·rintro ⟨i, hil, hbe⟩
  refine zc.run hmix zbo [1, 3] 400 (T := .ite (decide ((↑i : Int) < l.length)) (.side ((0 : Int) ≤ i ∧ (↑i : Int) ≤ l.length) (.side ((0 : Int) ≤ i ∧ (↑i : Int) < l.length) (.ex (fun (x : List Ev × Ev) => eqL [AV.sl (Int.toNat (↑i : Int) - 0) 9 (zg (evG l) 0), AV.agg [AV.int .u8 (Ev.kind (List.getD l (Int.toNat (↑i : Int)) Ev.nil)), AV.int .i64 (Ev.id (List.getD l (Int.toNat (↑i : Int)) Ev.nil)), AV.int .i64 (Ev.entry (List.getD l (Int.toNat (↑i : Int)) Ev.nil)), AV.int .i64 (Ev.target (List.getD l (Int.toNat (↑i : Int)) Ev.nil)), AV.int .i64 (Ev.date (List.getD l (Int.toNat (↑i : Int)) Ev.nil)), AV.str (Ev.zb (List.getD l (Int.toNat (↑i : Int)) Ev.nil)), AV.str (Ev.name (List.getD l (Int.toNat (↑i : Int)) Ev.nil)), AV.str (Ev.value (List.getD l (Int.toNat (↑i : Int)) Ev.nil)), AV.bool (Ev.first (List.getD l (Int.toNat (↑i : Int)) Ev.nil))]] [AV.sl x.1.length 9 (evG x.1), AV.agg [AV.int .u8 x.2.kind, AV.int .i64 x.2.id, AV.int .i64 x.2.entry, AV.int .i64 x.2.target, AV.int .i64 x.2.date, AV.str x.2.zb, AV.str x.2.name, AV.str x.2.value, AV.bool x.2.first]] ∧ x.1.length < 1099511627776 ∧ z7 x.2) fun n => .all (fun (r : Int) => r = accR n.1 n.2) fun n => .ite (!decide (n = 0)) (.leaf (.ret [.bool false] [.box [.sl l.length 9 (evG l)]])) (.side (inR .i64 ((↑i : Int) + (1 : Int))) (.leaf (.back 0 [(1, .ptr 0 0), (3, .int .i64 ((↑i : Int) + (1 : Int)))] [.box [.sl l.length 9 (evG l)]])))))) (.leaf (.ret [.bool true] [.box [.sl l.length 9 (evG l)]]))) (by kernel_rfl) ?_
  simp only [Tree.holds, zd, Int.toNat_natCast, inR, lo, hi, vU]
  have hall : i = l.length → jb l = true := fun hi => by
   unfold jb
   rw [List.all_eq_true]
   intro j hj
   exact decide_eq_true (hbe j (by have := List.mem_range.1 hj; omega))
  have hlp : ∀ j, z7 (l.getD j Ev.nil) := fun j => jU hp.2 j
  have hlen := hp.1
  refine ⟨fun h => ?_, fun h => ?_⟩
  ·have hlt : i < l.length := by have := of_decide_eq_true h; omega
   refine ⟨by omega, fun _ => ⟨by omega, fun _ => ?_⟩⟩
   refine ⟨(l.take i, l.getD i Ev.nil), ⟨⟨⟨by simp; omega, rfl, ?_⟩, by simp [Ev.av], trivial⟩, by simp; omega, hlp i⟩, ⟨_, rfl⟩, ?_⟩
   ·intro j o hj ho
    simp only [zg, evG, Nat.zero_add]
    congr 1
    simp only [List.getD]
    rw [List.getElem?_take, if_pos (by omega)]
   rintro _ rfl
   refine ⟨fun h => ?_, fun h => ⟨by omega, fun _ => ?_⟩⟩
   ·have h : accR (l.take i) (l.getD i Ev.nil) ≠ 0 := by simpa using h
    refine RetR.scal hq rfl ?_
    have : jb l = false := by
     unfold jb
     rw [List.all_eq_false]
     exact ⟨i, List.mem_range.2 hlt, by rw [decide_eq_false h]; decide⟩
    rw [this]; rfl
   ·have h : accR (l.take i) (l.getD i Ev.nil) = 0 := by simpa using h
    rw [if_pos trivial]
    refine ⟨⟨i + 1, hlt, fun j hj => ?_⟩, by show l.length - (i + 1) < l.length - i; omega, ⟨by simp [SVl], by simp [evS, za], by kernel_rfl, Nat.zero_le _⟩⟩
    by_cases e : j = i
    ·rw [e]; exact h
    ·exact hbe j (by omega)
  ·have hge : i = l.length := by have := of_decide_eq_false h; omega
   refine RetR.scal hq rfl ?_
   rw [hall hge]; rfl
end Go.Proofs.Tryz
end

/- The reference's Append; sizes; the same logs. -/
section
set_option maxRecDepth 100000
open Go Go.Sx Go.Proofs Go.Nov
namespace Go.Proofs.Tryz
attribute [local simp] eqKV eqA eqA0 eqH eqB eqL eqL0
noncomputable def K4 : List Go.Sx.Item := [.code (Tryz.f4.body.getD .skip)]
def za1 (e : Ev) : Prop := e.zb.length < 2 ^ 49 ∧ e.name.length < 2 ^ 49 ∧ e.value.length < 2 ^ 49
def XK (l : List Ev) : Prop := l.length < 2 ^ 60 ∧ ∀ j, j < l.length → za1 (l.getD j Ev.nil)
def fitL (l : List Ev) : Prop := l.length ≤ 60 ∧ ∀ e ∈ l, z7 e
def ze4 : Ctr := ctrP true (fun e : Ev => [e.av]) za1 (fun e r => r = false → z7 e) (fun _ (r : Bool) => (.bool r, []))
theorem zdp : ze Tryz.prog 13 ze4 := by
 refine zh (fn := Tryz.f13) (c := Tryz.f13.body.getD .skip) rfl rfl rfl fun e hp O w0 Q hq => ?_
 refine zc.run hmix zr [] 400 (T := .leaf (.ret [.bool (bif bif decide ((3000 : Int) < e.zb.length) then true else decide ((3000 : Int) < e.name.length) then true else decide ((3000 : Int) < e.value.length))] [.box [.int .u8 e.kind, .int .i64 e.id, .int .i64 e.entry, .int .i64 e.target, .int .i64 e.date, .str e.zb, .str e.name, .str e.value, .bool e.first]])) (by kernel_rfl) ?_
 simp only [Tree.holds, zd, zb0]
 refine RetR.scal (hq _ fun h => ?_) rfl rfl
 simp only [Bool.or_eq_false_iff, decide_eq_false_iff_not] at h
 exact ⟨by omega, by omega, by omega⟩
def XB : Ctr := ctrP true (fun l : List Ev => [.agg [evS l]]) XK (fun l r => r = false → fitL l) (fun _ (r : Bool) => (.bool r, []))
def SGl (i : Nat) : KV := [(1, .ptr 0 0), (3, .int .i64 i)]
noncomputable def GGl : Nat → Option Ctr := fun f => if f = 13 then some (ze4) else none
theorem zbh : ∀ g c, GGl g = some c → ze Tryz.prog g c := okIf zdp (zn)
theorem YU : ze Tryz.prog 4 XB := by
 refine zh (fn := Tryz.f4) (c := Tryz.f4.body.getD .skip) rfl rfl rfl fun l hp O w0 Q hq => ?_
 refine zc.run hmix zbh [1, 3] 400 (T := .ite (decide ((60 : Int) < l.length)) (.leaf (.ret [.bool true] [.box [.sl l.length 9 (evG l)]])) (.leaf (.loop (Prod.fst (lps K4 0)) (Prod.snd (lps K4 0)) [(1, .ptr 0 0), (3, .int .i64 0)] [.box [.sl l.length 9 (evG l)]]))) (by kernel_rfl) ?_
 simp only [Tree.holds, zd]
 refine ⟨fun h => RetR.scal (hq true fun g => (by cases g)) rfl rfl, fun h => ?_⟩
 have h60 : l.length ≤ 60 := by have := of_decide_eq_false h; omega
 refine zc.loop (ι := {i : Nat // i ≤ l.length ∧ ∀ j, j < i → z7 (l.getD j Ev.nil)}) (fun i => SGl i.1) (fun _ => [.box [evS l]]) (fun i => l.length - i.1) ⟨0, Nat.zero_le _, fun j hj => by omega⟩ 0 ?_ ?_ (by kernel_rfl)
 ·exact ⟨by simp [SGl], by simp [evS, za], by kernel_rfl, Nat.zero_le _⟩
 ·rintro ⟨i, hil, hbe⟩
  refine zc.run hmix zbh [1, 3] 400 (T := .ite (decide ((↑i : Int) < l.length)) (.side ((0 : Int) ≤ i ∧ (↑i : Int) < l.length) (.ex (fun (x : Ev) => eqL [AV.agg [AV.int .u8 (Ev.kind (List.getD l (Int.toNat (↑i : Int)) Ev.nil)), AV.int .i64 (Ev.id (List.getD l (Int.toNat (↑i : Int)) Ev.nil)), AV.int .i64 (Ev.entry (List.getD l (Int.toNat (↑i : Int)) Ev.nil)), AV.int .i64 (Ev.target (List.getD l (Int.toNat (↑i : Int)) Ev.nil)), AV.int .i64 (Ev.date (List.getD l (Int.toNat (↑i : Int)) Ev.nil)), AV.str (Ev.zb (List.getD l (Int.toNat (↑i : Int)) Ev.nil)), AV.str (Ev.name (List.getD l (Int.toNat (↑i : Int)) Ev.nil)), AV.str (Ev.value (List.getD l (Int.toNat (↑i : Int)) Ev.nil)), AV.bool (Ev.first (List.getD l (Int.toNat (↑i : Int)) Ev.nil))]] [AV.agg [AV.int .u8 x.kind, AV.int .i64 x.id, AV.int .i64 x.entry, AV.int .i64 x.target, AV.int .i64 x.date, AV.str x.zb, AV.str x.name, AV.str x.value, AV.bool x.first]] ∧ za1 x) fun n => .all (fun (r : Bool) => r = false → z7 n) fun n => .ite n (.leaf (.ret [.bool true] [.box [.sl l.length 9 (evG l)]])) (.side (inR .i64 ((↑i : Int) + (1 : Int))) (.leaf (.back 0 [(1, .ptr 0 0), (3, .int .i64 ((↑i : Int) + (1 : Int)))] [.box [.sl l.length 9 (evG l)]]))))) (.leaf (.ret [.bool false] [.box [.sl l.length 9 (evG l)]]))) (by kernel_rfl) ?_
  simp only [Tree.holds, zd, Int.toNat_natCast, inR, lo, hi]
  refine ⟨fun h => ?_, fun h => ?_⟩
  ·have hlt : i < l.length := by have := of_decide_eq_true h; omega
   refine ⟨by omega, fun _ => ⟨l.getD i Ev.nil, ⟨by simp [Ev.av], hp.2 i hlt⟩, ⟨true, fun g => (by cases g)⟩, ?_⟩⟩
   intro b hb
   refine ⟨fun g => RetR.scal (hq true fun g => (by cases g)) rfl rfl, fun g => ⟨by omega, fun _ => ?_⟩⟩
   rw [if_pos trivial]
   refine ⟨⟨i + 1, hlt, fun j hj => ?_⟩, by show l.length - (i + 1) < l.length - i; omega, ⟨by simp [SGl], by simp [evS, za], by kernel_rfl, Nat.zero_le _⟩⟩
   by_cases e : j = i
   ·rw [e]; exact hb g
   ·exact hbe j (by omega)
  ·have hge : i = l.length := by have := of_decide_eq_false h; omega
   refine RetR.scal (hq false fun _ => ⟨h60, fun e he => ?_⟩) rfl rfl
   obtain ⟨j, hj, rfl⟩ := List.mem_iff_getElem.1 he
   have := hbe j (by omega)
   rwa [zK hj] at this
end Go.Proofs.Tryz
end

/- The store's example. -/
section
set_option maxRecDepth 100000
open Go Go.Sx Go.Proofs Go.Nov
namespace Go.Proofs.Tryz
attribute [local simp] eqKV eqA eqA0 eqH eqB eqL eqL0
end Go.Proofs.Tryz
end

/- Trails; older views. -/
section
namespace Go.Nov
end Go.Nov
end

/- What is known: facts placed one by one. -/
section
namespace Go.Nov
def kz {α : Type} (c : α → α → Int) (xs l : List α) : List α := xs.foldl (fun l x => zo c x l) l
def je (d : Option Int) (L : List Ev) : List Fx := (L.filter fun x => decide (x.kind = 1) && wL d x).map Ev.fx
def jc (d : Option Int) (L : List Ev) : List Ch := (L.filter fun x => decide (x.kind = 2) && wL d x).map Ev.ch
def Vn (x : Ev) : Prop := x.kind = 0 ∨ x.kind = 1 ∧ okF x.fx = true ∨ x.kind = 2 ∧ okC x.ch = true
theorem kM {d : Option Int} : ∀ {L : List Ev} {f : List Fx} {c : List Ch}, errE f c = 0 → (∀ x ∈ L, Vn x) → f.length + L.length ≤ 1000 → c.length + L.length ≤ 1000 →
  zJ d L (f, c) = ((kz cmpF (je d L) f, kz cmpC (jc d L) c), 0) ∧ errE (kz cmpF (je d L) f) (kz cmpC (jc d L) c) = 0
 | [], f, c, h, _, _, _ => ⟨rfl, h⟩
 | x :: L, f, c, h, hg, h1, h2 => by
  simp only [List.length_cons] at h1 h2
  have hgx := hg x (by simp)
  have hgL : ∀ y ∈ L, Vn y := fun y hy => hg y (by simp [hy])
  by_cases hk : wL d x = true
  ·rcases hgx with k | ⟨k, ok⟩ | ⟨k, ok⟩
   ·have hs : zF d (f, c) x = ((f, c), 0) := by unfold zF; rw [if_pos (by simp [k])]
    have e1 : je d (x :: L) = je d L := by simp [je, List.filter_cons, k]
    have e2 : jc d (x :: L) = jc d L := by simp [jc, List.filter_cons, k]
    rw [zJ, hs, e1, e2, if_neg (by simp)]
    exact kM h hgL (by omega) (by omega)
   ·have hl := v5 (c := cmpF) (x := x.fx) f
    have hs : zF d (f, c) x = ((zo cmpF x.fx f, c), 0) := by
     unfold zF
     rw [if_neg (by simp [k, hk]), if_pos k]
     exact Xj h ok (by simp only; omega)
    have e1 : je d (x :: L) = x.fx :: je d L := by simp [je, List.filter_cons, k, hk]
    have e2 : jc d (x :: L) = jc d L := by simp [jc, List.filter_cons, k]
    rw [zJ, hs, e1, e2, if_neg (by simp)]
    exact kM (ZE h ok (by omega)) hgL (by omega) (by omega)
   ·have hl := v5 (c := cmpC) (x := x.ch) c
    have hs : zF d (f, c) x = ((f, zo cmpC x.ch c), 0) := by
     unfold zF
     rw [if_neg (by simp [k, hk]), if_neg (by omega)]
     unfold putC
     simp only
     rw [if_neg (by simpa using h), if_neg (by rw [ok]; decide), if_neg (by omega)]
    have e1 : je d (x :: L) = je d L := by simp [je, List.filter_cons, k]
    have e2 : jc d (x :: L) = x.ch :: jc d L := by simp [jc, List.filter_cons, k, hk]
    rw [zJ, hs, e1, e2, if_neg (by simp)]
    exact kM (uQ h ok (by omega)) hgL (by omega) (by omega)
  ·have hk : wL d x = false := by simpa using hk
   have hs : zF d (f, c) x = ((f, c), 0) := by unfold zF; rw [if_pos (by simp [hk])]
   have e1 : je d (x :: L) = je d L := by simp [je, List.filter_cons, hk]
   have e2 : jc d (x :: L) = jc d L := by simp [jc, List.filter_cons, hk]
   rw [zJ, hs, e1, e2, if_neg (by simp)]
   exact kM h hgL (by omega) (by omega)
end Go.Nov
namespace Go.Nov
section
variable {α : Type} {c : α → α → Int} {x : α} (hk : OrdT c)
include hk
end
theorem zbz (d : Int) (L : List Ev) : je (some d) L = (je none L).filter fun x => decide (x.date ≤ d) := by
 unfold je
 rw [List.filter_map, List.filter_filter]
 congr 1
 refine List.filter_congr fun x _ => ?_
 rw [Bool.eq_iff_iff]; simp [wL, Ev.fx, and_comm]; exact fun _ => ⟨fun h => decide_eq_true h, fun h => of_decide_eq_true h⟩
theorem zbj (d : Int) (L : List Ev) : jc (some d) L = (jc none L).filter fun x => decide (x.date ≤ d) := by
 unfold jc
 rw [List.filter_map, List.filter_filter]
 congr 1
 refine List.filter_congr fun x _ => ?_
 rw [Bool.eq_iff_iff]; simp [wL, Ev.ch, and_comm]; exact fun _ => ⟨fun h => decide_eq_true h, fun h => of_decide_eq_true h⟩
theorem QK (t : Int) : ∀ {l : List Ev} {a : Ev}, (∀ y ∈ l, y.kind = 3 → errR y.value = 0) → errR a.value = 0 → errR (l.foldl (fixS t) a).value = 0
 | [], a, _, h => h
 | y :: l, a, hl, h => by
  simp only [List.foldl_cons]
  refine QK t (fun z hz => hl z (by simp [hz])) ?_
  unfold fixS
  split
  ·rename_i g; exact hl y (by simp) g.2
  ·split <;> exact h
theorem Qt {e : Ev} (hv : e.valid = true) : (e.kind = 1 → okF e.fx = true) ∧ (e.kind = 2 → okC e.ch = true) ∧ (e.kind = 3 → errR e.value = 0) := by
 unfold Ev.valid at hv
 simp only [Bool.and_eq_true] at hv
 have hv := hv.2
 refine ⟨fun g => ?_, fun g => ?_, fun g => ?_⟩
 ·rw [if_pos g] at hv
  simp only [Bool.and_eq_true] at hv
  obtain ⟨⟨⟨⟨⟨h1, h2⟩, h3⟩, _⟩, _⟩, _⟩ := hv
  unfold okF Ev.fx
  simp only
  rw [h1, h2, h3]; rfl
 ·rw [if_neg (by omega), if_pos g] at hv
  simp only [Bool.and_eq_true] at hv
  obtain ⟨⟨⟨⟨h1, h2⟩, h3⟩, _⟩, _⟩ := hv
  unfold okC Ev.ch
  simp only
  rw [h1, h2, h3]; rfl
 ·rw [if_neg (by omega), if_neg (by omega)] at hv
  simp only [Bool.and_eq_true] at hv
  have hv := hv.2
  rw [if_pos g] at hv
  simp only [Bool.and_eq_true] at hv
  exact of_decide_eq_true hv.1
theorem ZN {l : List Ev} {s : SS} (I : Inv l s) : ∀ x ∈ s.lat, Vn x := by
 intro x hx
 obtain ⟨i, hi, rfl⟩ := List.mem_iff_getElem.1 hx
 have hil : i < l.length := by have := I.ok.len; rw [I.evs] at this; omega
 have h := I.lat i hil
 rw [zK hi] at h
 rw [h]
 by_cases hk : (latF l i).kind = 0
 ·exact .inl hk
 ·obtain ⟨q1, q2, q3⟩ := xf hk
  have hv := I.val i hil
  have hvf := Qt hv
  have hkey := jS l (l.getD i Ev.nil)
  have hval : (l.getD i Ev.nil).kind = 1 → errR (jC l (l.getD i Ev.nil)).value = 0 := fun g => by
   refine QK _ (fun y hy hk3 => ?_) ?_
   ·obtain ⟨j, hj, rfl⟩ := List.mem_iff_getElem.1 hy
    have := I.val j hj
    rw [zK hj] at this
    exact (Qt this).2.2 hk3
   ·have := hvf.1 g
    unfold okF at this
    simp only [Bool.and_eq_true] at this
    exact of_decide_eq_true this.2
  rw [q1]
  generalize jC l (l.getD i Ev.nil) = y at hkey hval ⊢
  generalize l.getD i Ev.nil = x at *
  obtain ⟨k1, k2⟩ := hkey
  simp only [Ev.key, List.cons.injEq, Sum.inl.injEq, Sum.inr.injEq, and_true] at k1
  obtain ⟨_, k3, k4, k5⟩ := k1
  rcases jx.1 q2 with g | g
  ·refine .inr (.inl ⟨by rw [k2, g], ?_⟩)
   have := hvf.1 g
   unfold okF Ev.fx at this ⊢
   simp only [Bool.and_eq_true] at this ⊢
   simp only [k4, k5]
   exact ⟨this.1, decide_eq_true (hval g)⟩
  ·refine .inr (.inr ⟨by rw [k2, g], ?_⟩)
   have := hvf.2.1 g
   unfold okC Ev.ch at this ⊢
   simp only [k3, k4, k5]
   exact this
theorem kF {l : List Ev} {tm : Int} {d : Option Int} {s : SS} (hv : (SS.play ⟨[], []⟩ l).isSome = true) (ht : ¬ (tm < 0 ∨ 1125899906842624 < tm)) (hs : SS.play ⟨[], []⟩ (l.take (cutE l tm)) = some s) :
  zC l tm d = ((kz cmpF (je d s.lat) [], kz cmpC (jc d s.lat) []), 0) ∧ errE (kz cmpF (je d s.lat) []) (kz cmpC (jc d s.lat) []) = 0 := by
 have I := (jG (l := l.take (cutE l tm))).2 s hs
 obtain ⟨a1, a2, a3⟩ := Xa hs
 have hlen := a1.len
 have := kM (d := d) (L := s.lat) (f := []) (c := []) (by decide) (ZN I) (by simp; omega) (by simp; omega)
 unfold zC
 rw [if_neg (by rw [hv]; decide), if_neg ht, hs]
 exact this
end Go.Nov
end

/- A part of what is known. -/
section
namespace Go.Nov
theorem W9 {α : Type} {l : List α} {p : α → Bool} {z : α} {i : Nat} (h : i < l.length) : (l.take (i + 1)).filter p = if p (l.getD i z) = true then (l.take i).filter p ++ [l.getD i z] else (l.take i).filter p := by
 rw [List.take_add_one, List.getElem?_eq_getElem h, zK h]
 simp only [Option.toList_some, List.filter_append, List.filter_cons, List.filter_nil]
 split <;> simp
theorem V1 {α : Type} {l : List α} {p : α → Bool} (i : Nat) : ((l.take i).filter p).length ≤ l.length := by
 have h1 := List.length_filter_le p (l.take i)
 have h2 := List.length_take_le' i l
 omega
end Go.Nov
end
