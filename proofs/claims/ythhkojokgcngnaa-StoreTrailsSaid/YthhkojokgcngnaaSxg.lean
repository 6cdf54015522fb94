/- The law returns true for every input, and each argument reads afterwards as it read before; no condition. -/
import Derived.Test.YthhkojokgcngnaaSxf
import Derived.KernelRfl
import Derived.SizedLaws
import Derived.ChangeArms
import Derived.Deep.Slices
import Derived.Carry
import Derived.LaidMore
import Derived.WideKeyElems2
import Derived.ProofKit
import Derived.OpenShut
import Derived.ReadAgain
import Derived.Test.YthhkojokgcngnaaRows
set_option linter.unusedVariables false
set_option linter.unusedSimpArgs false
set_option linter.unusedSectionVars false

/- The store: View, Past, Trail; the example. -/
section
set_option maxRecDepth 100000
open Go Go.Sx Go.Proofs Go.Nov
namespace Go.Proofs.Try
attribute [local simp] eqKV eqA eqA0 eqH eqB eqL eqL0
noncomputable def K25 : List Go.Sx.Item := [.code (Try.f25.body.getD .skip)]
theorem retE {ctr : Ctr} {Q : AV × Heap → Prop} {h : Heap} {f : List Fx} {c : List Ch} {z : Int} (hf : ctr.fresh = false) (hq : Q (.tup [envA f c, .int .i64 z], [])) : RetR ctr 0 Q [.agg [.sl f.length 3 (fxG f), .sl c.length 4 (chG c)], .int .i64 z] h :=
 RetR.out0 hq (fun g => by rw [hf] at g; cases g) (by simp [resV, exp2, exp1, exp0, ren0, eqA2, eqL1, envA, fxS, chS, za])
def Xc : Ctr := ctrP false (fun p : List Ev × Int => [.agg [evS p.1], .int .i64 p.2]) (fun p => evP p.1) (fun p r => r = zI p.1 p.2 none) (fun _ (r : EnvL × Int) => (.tup [envA r.1.1 r.1.2, .int .i64 r.2], []))
noncomputable def GVw : Nat → Option Ctr := fun f => if f = 34 then some (knVC) else none
theorem zai : ∀ g c, GVw g = some c → zd Try.prog g c := okIf zar (zr)
theorem WL : zd Try.prog 18 Xc := by
 refine zm (fn := Try.f18) (c := Try.f18.body.getD .skip) rfl rfl rfl fun p hp O w0 Q hq => ?_
 obtain ⟨l, tm⟩ := p
 replace hq := hq _ rfl
 refine zc.run hmix zai [] 400 (T := .ex (fun (x : List Ev × Int) => eqL [AV.agg [AV.sl l.length 9 (evG l)], AV.int .i64 tm, AV.fn 35 [] []] [AV.agg [AV.sl x.1.length 9 (evG x.1)], AV.int .i64 x.2, AV.fn 35 [] []] ∧ evP x.1) fun n => .all (fun (r : EnvL × Int) => r = zI n.1 n.2 none) fun n => .leaf (.ret [.agg [.sl n.1.1.length 3 (fxG n.1.1), .sl n.1.2.length 4 (chG n.1.2)], .int .i64 n.2] [.box [.sl l.length 9 (evG l)], .box [.sl n.1.1.length 3 (fxG n.1.1), .sl n.1.2.length 4 (chG n.1.2)]])) (by kernel_rfl) ?_
 simp only [Tree.holds, ze]
 refine ⟨(l, tm), ⟨by simp [evS, za], hp⟩, ⟨_, rfl⟩, ?_⟩
 rintro _ rfl
 exact retE rfl hq
def STl (l : List Ev) (id : Int) (i n : Nat) : KV := [(1, .int .i64 id), (6, .osl 1 1 0 n), (24, evS l), (25, .int .i64 (l.length : Int)), (26, .int .i64 i)]
def JL : Ctr := ctrP true (fun p : List Ev × Int => [.agg [evS p.1], .int .i64 p.2]) (fun p => evP p.1) (fun p r => r = wo p.1 p.2) (fun _ (r : List Int × Int) => (.tup [intS r.1, .int .i64 r.2], []))
noncomputable def GTl : Nat → Option Ctr := fun f => if f = 15 then some (xr) else none
theorem Yf : ∀ g c, GTl g = some c → zd Try.prog g c := okIf xZ (zr)
theorem KK : zd Try.prog 25 JL := by
 refine zm (fn := Try.f25) (c := Try.f25.body.getD .skip) rfl rfl rfl fun p hp O w0 Q hq => ?_
 obtain ⟨l, id⟩ := p
 replace hq := hq _ rfl
 refine zc.run hmix Yf [1, 6, 24, 25, 26] 400 (T := .ex (fun (x : List Ev) => eqL [AV.agg [AV.sl l.length 9 (evG l)]] [AV.agg [AV.sl x.length 9 (evG x)]] ∧ evP x) fun n => .all (fun (r : Int) => r = if Option.isSome (SS.play { evs := [], lat := [] } n) = true then (0 : Int) else (8 : Int)) fun n => .ite (!decide (n = 0)) (.leaf (.ret [.nils, .int .i64 8] [.box [.sl l.length 9 (evG l)]])) (.ite (bif decide (id < 1) then true else decide ((↑l.length : Int) < id)) (.leaf (.ret [.nils, .int .i64 6] [.box [.sl l.length 9 (evG l)]])) (.leaf (.loop (Prod.fst (lps K25 0)) (Prod.snd (lps K25 0)) [(1, .int .i64 id), (6, .osl 1 1 0 1), (24, .sl l.length 9 (evG l)), (25, .int .i64 l.length), (26, .int .i64 0)] [.box [.sl l.length 9 (evG l)], .arr 1 1 (zf 1 [.int .i64 id])])))) (by kernel_rfl) ?_
 simp only [Tree.holds, ze]
 simp only [bifO]
 have hl1 : l.length < 2 ^ 40 := hp.1
 have bad : ∀ (z : Int) (h : Heap), wo l id = ([], z) → RetR JL 0 Q [.nils, .int .i64 z] h := fun z h hr => by
  simp only [hr] at hq
  exact RetR.out0 hq (fun _ => by simp [resV, new2, new1, new0, zL]) (by simp [resV, exp2, exp1, exp0, ren0, eqA2, eqL1, intS])
 refine ⟨l, ⟨by simp [evS, za], hp⟩, ⟨_, rfl⟩, ?_⟩
 rintro _ rfl
 refine ⟨fun h => bad _ _ ?_, fun h => ⟨fun h2 => bad _ _ ?_, fun h2 => ?_⟩⟩
 ·unfold wo
  rw [if_pos]
  cases hs : (SS.play ⟨[], []⟩ l).isSome with
  | false => rfl
  | true => rw [hs] at h; simp at h
 ·have hv : (SS.play ⟨[], []⟩ l).isSome = true := by
   cases hs : (SS.play ⟨[], []⟩ l).isSome with
   | true => rfl
   | false => rw [hs] at h; simp at h
  unfold wo
  rw [if_neg (by rw [hv]; decide), if_pos (by simpa using h2)]
 have hv : (SS.play ⟨[], []⟩ l).isSome = true := by
  cases hs : (SS.play ⟨[], []⟩ l).isSome with
  | true => rfl
  | false => rw [hs] at h; simp at h
 have hr : wo l id = (idsT l id l.length, 0) := by
  unfold wo idsT
  rw [if_neg (by rw [hv]; decide), if_neg (by simpa using h2), List.take_length]
 simp only [hr] at hq
 refine zc.loop (ι := {i : Nat // i ≤ l.length}) (fun i => STl l id i.1 (idsT l id i.1).length) (fun i => [.dead, .arr (idsT l id i.1).length 1 (intG (idsT l id i.1))]) (fun i => l.length - i.1) ⟨0, Nat.zero_le _⟩ 0 ?_ ?_ (by kernel_rfl)
 ·refine ⟨by simp [STl, evS, za, idsT], ⟨trivial, ⟨by simp [idsT], rfl, ?_⟩, trivial⟩, by kernel_rfl, Nat.zero_le _⟩
  intro j o hj ho
  obtain rfl : j = 0 := by omega
  obtain rfl : o = 0 := by omega
  rfl
 ·rintro ⟨i, hil⟩
  obtain ⟨m, hm⟩ : ∃ m, m = idsT l id i := ⟨_, rfl⟩
  have hml := QJ l id i
  simp only [← hm] at hml ⊢
  refine zc.run hmix Yf [1, 6, 24, 25, 26] 400 (T := .ite (decide ((↑i : Int) < l.length)) (.side ((0 : Int) ≤ i ∧ (↑i : Int) < l.length) (.ite (decide (Ev.target (List.getD l (Int.toNat (↑i : Int)) Ev.nil) = id)) (.side (0 = 0 ∧ m.length ≤ m.length ∧ (m.length + 1) * 8 ≤ 140737488355328) (.side (inR .i64 ((↑i : Int) + (1 : Int))) (.leaf (.back 0 [(1, .int .i64 id), (6, .osl 1 1 0 (m.length + 1)), (24, .sl l.length 9 (evG l)), (25, .int .i64 l.length), (26, .int .i64 ((↑i : Int) + (1 : Int)))] [.dead, .arr (m.length + 1) 1 (appG m.length (intG m) (zg (zf 1 [.int .i64 (Ev.id (List.getD l (Int.toNat (↑i : Int)) Ev.nil))]) 0)), .box [.int .u8 (Ev.kind (List.getD l (Int.toNat (↑i : Int)) Ev.nil)), .int .i64 (Ev.id (List.getD l (Int.toNat (↑i : Int)) Ev.nil)), .int .i64 (Ev.entry (List.getD l (Int.toNat (↑i : Int)) Ev.nil)), .int .i64 (Ev.target (List.getD l (Int.toNat (↑i : Int)) Ev.nil)), .int .i64 (Ev.date (List.getD l (Int.toNat (↑i : Int)) Ev.nil)), .str (Ev.zb (List.getD l (Int.toNat (↑i : Int)) Ev.nil)), .str (Ev.name (List.getD l (Int.toNat (↑i : Int)) Ev.nil)), .str (Ev.value (List.getD l (Int.toNat (↑i : Int)) Ev.nil)), .bool (Ev.first (List.getD l (Int.toNat (↑i : Int)) Ev.nil))], .arr 1 1 (zf 1 [.int .i64 (Ev.id (List.getD l (Int.toNat (↑i : Int)) Ev.nil))])])))) (.side (inR .i64 ((↑i : Int) + (1 : Int))) (.leaf (.back 0 [(1, .int .i64 id), (6, .osl 1 1 0 m.length), (24, .sl l.length 9 (evG l)), (25, .int .i64 l.length), (26, .int .i64 ((↑i : Int) + (1 : Int)))] [.dead, .arr m.length 1 (intG m), .box [.int .u8 (Ev.kind (List.getD l (Int.toNat (↑i : Int)) Ev.nil)), .int .i64 (Ev.id (List.getD l (Int.toNat (↑i : Int)) Ev.nil)), .int .i64 (Ev.entry (List.getD l (Int.toNat (↑i : Int)) Ev.nil)), .int .i64 (Ev.target (List.getD l (Int.toNat (↑i : Int)) Ev.nil)), .int .i64 (Ev.date (List.getD l (Int.toNat (↑i : Int)) Ev.nil)), .str (Ev.zb (List.getD l (Int.toNat (↑i : Int)) Ev.nil)), .str (Ev.name (List.getD l (Int.toNat (↑i : Int)) Ev.nil)), .str (Ev.value (List.getD l (Int.toNat (↑i : Int)) Ev.nil)), .bool (Ev.first (List.getD l (Int.toNat (↑i : Int)) Ev.nil))]]))))) (.leaf (.ret [.osl 1 1 0 m.length, .int .i64 0] [.dead, .arr m.length 1 (intG m)]))) (by kernel_rfl) ?_
  simp only [Tree.holds, ze, inR, lo, hi, Int.toNat_natCast, Nat.zero_add]
  refine ⟨fun hlt => ?_, fun hge => ?_⟩
  ·have hlt : i < l.length := by have := of_decide_eq_true hlt; omega
   have hs := vX (id := id) hlt
   refine ⟨by omega, fun _ => ⟨fun h => ⟨⟨trivial, Nat.le_refl _, by omega⟩, fun _ => ⟨by omega, fun _ => ?_⟩⟩, fun h => ⟨by omega, fun _ => ?_⟩⟩⟩
   ·rw [if_pos trivial]
    rw [if_pos (of_decide_eq_true h), ← hm] at hs
    refine ⟨⟨i + 1, hlt⟩, by show l.length - (i + 1) < l.length - i; omega, ⟨by simp [STl, evS, za, hs], ⟨trivial, ⟨by simp [hs], rfl, ?_⟩, trivial⟩, by kernel_rfl, Nat.zero_le _⟩⟩
    simp only [hs]
    exact Xg (za _ _ _)
   ·rw [if_pos trivial]
    rw [if_neg (of_decide_eq_false h), ← hm] at hs
    refine ⟨⟨i + 1, hlt⟩, by show l.length - (i + 1) < l.length - i; omega, ⟨by simp [STl, evS, za, hs], by simp [hs, za], by kernel_rfl, Nat.zero_le _⟩⟩
  ·have hge : i = l.length := by have := of_decide_eq_false hge; omega
   rw [← hge, ← hm] at hq
   refine RetR.out0 hq (fun _ => ?_) ?_
   ·simp only [resV, new2, List.mem_cons, List.not_mem_nil, or_false, forall_eq_or_imp, forall_eq, new1, new0]
    exact ⟨fun _ => by simp only [exp0, zn, frz1, qF, List.getElem?_cons_succ, List.getElem?_cons_zero, if_true, Zd]; exact fun j o hj ho => rfl, rfl⟩
   ·simp [resV, exp2, exp1, exp0, zn, frz1, qF, ren0, eqA2, eqL1, intS]
    exact fun j o hj ho => by simp [zg, intG]
def UD : Ctr := ctrP true (fun p : List Ev × Ev => [.agg [evS p.1], p.2.av]) (fun p => evP p.1 ∧ zC p.2) (fun p r => r = appS p.1 p.2) (fun _ (r : List Ev × Int) => (.tup [.agg [evS r.1], .int .i64 r.2], []))
theorem YH : zd Try.prog 12 UD := zd.frozen YM (fun p r _ _ => by
  simp only [new2, List.mem_cons, List.not_mem_nil, or_false, forall_eq_or_imp, forall_eq, new1, new0]
  refine ⟨fun _ => ?_, rfl⟩
  simp only [exp0, zn, frz1, qF, List.getElem?_cons_zero, if_true, Zd]
  exact fun j o hj ho => WD _ _ _ ho) (fun p r _ _ => zJ (by simp [exp2, exp1, exp0, zn, frz1, qF, ren0, eqA2, eqL1, evS, kh]))
end Go.Proofs.Try
end

/- The chapter's example. -/
section
namespace Go.Nov
def acme : List UInt8 := [65, 67, 77, 69]
def exL : List Ev := [⟨1, 1, 50, 0, 46340, [], acme, [49, 48], false⟩, ⟨3, 2, 60, 1, 0, [], [], [49, 49], false⟩, ⟨5, 3, 70, 1, 0, [], [], [], false⟩, ⟨1, 4, 70, 0, 46340, [], acme, [49, 50], false⟩]
theorem YQ (i : Nat) (h : i < 4) : appS (exL.take i) (exL.getD i Ev.nil) = (exL.take (i + 1), 0) := by
 rcases (show i = 0 ∨ i = 1 ∨ i = 2 ∨ i = 3 by omega) with rfl | rfl | rfl | rfl <;> decide +kernel
theorem xu : ∀ e ∈ exL, zC e := by
 intro e he
 simp only [exL, List.mem_cons, List.not_mem_nil, or_false] at he
 rcases he with rfl | rfl | rfl | rfl <;> exact ⟨by decide, by decide, by decide⟩
theorem Kt : zI exL 49 none = (([], []), 0) ∧ zI exL 50 none = (([⟨acme, 46340, [49, 48]⟩], []), 0) ∧ zI exL 60 none = (([⟨acme, 46340, [49, 49]⟩], []), 0) ∧ zI exL 69 none = (([⟨acme, 46340, [49, 49]⟩], []), 0) ∧ zI exL 70 none = (([⟨acme, 46340, [49, 50]⟩], []), 0) ∧ zI exL 1125899906842624 none = (([⟨acme, 46340, [49, 50]⟩], []), 0) :=
 ⟨by kernel_rfl, by kernel_rfl, by kernel_rfl, by kernel_rfl, by kernel_rfl, by kernel_rfl⟩
end Go.Nov
end

/- The reference's store: what it accepts. -/
section
set_option maxRecDepth 100000
open Go Go.Sx Go.Proofs Go.Nov
namespace Go.Proofs.Try
attribute [local simp] eqKV eqA eqA0 eqH eqB eqL eqL0
theorem zah (x y : Bool) : (bif x then true else y) = (x || y) := by cases x <;> rfl
end Go.Proofs.Try
end

/- The reference's Append; sizes; the same logs. -/
section
set_option maxRecDepth 100000
open Go Go.Sx Go.Proofs Go.Nov
namespace Go.Proofs.Try
attribute [local simp] eqKV eqA eqA0 eqH eqB eqL eqL0
noncomputable def K10 : List Go.Sx.Item := [.code (Try.f10.body.getD .skip)]
def Xn (e : Ev) : Prop := e.zb.length < 2 ^ 49 ∧ e.name.length < 2 ^ 49 ∧ e.value.length < 2 ^ 49
def Vu (l : List Ev) : Prop := l.length < 2 ^ 60 ∧ ∀ j, j < l.length → Xn (l.getD j Ev.nil)
def fitL (l : List Ev) : Prop := l.length ≤ 60 ∧ ∀ e ∈ l, zC e
def Uw : Ctr := ctrP true (fun e : Ev => [e.av]) Xn (fun e r => r = false → zC e) (fun _ (r : Bool) => (.bool r, []))
theorem Ue : zd Try.prog 11 Uw := by
 refine zm (fn := Try.f11) (c := Try.f11.body.getD .skip) rfl rfl rfl fun e hp O w0 Q hq => ?_
 refine zc.run hmix z2 [] 400 (T := .leaf (.ret [.bool (bif bif decide ((3000 : Int) < e.zb.length) then true else decide ((3000 : Int) < e.name.length) then true else decide ((3000 : Int) < e.value.length))] [.box [.int .u8 e.kind, .int .i64 e.id, .int .i64 e.entry, .int .i64 e.target, .int .i64 e.date, .str e.zb, .str e.name, .str e.value, .bool e.first]])) (by kernel_rfl) ?_
 simp only [Tree.holds, ze, zah]
 refine RetR.scal (hq _ fun h => ?_) rfl rfl
 simp only [Bool.or_eq_false_iff, decide_eq_false_iff_not] at h
 exact ⟨by omega, by omega, by omega⟩
def Vn : Ctr := ctrP true (fun l : List Ev => [.agg [evS l]]) Vu (fun l r => r = false → fitL l) (fun _ (r : Bool) => (.bool r, []))
def SGl (i : Nat) : KV := [(1, .ptr 0 0), (3, .int .i64 i)]
noncomputable def GGl : Nat → Option Ctr := fun f => if f = 11 then some (Uw) else none
theorem XS : ∀ g c, GGl g = some c → zd Try.prog g c := okIf Ue (zr)
theorem Ko : zd Try.prog 10 Vn := by
 refine zm (fn := Try.f10) (c := Try.f10.body.getD .skip) rfl rfl rfl fun l hp O w0 Q hq => ?_
 refine zc.run hmix XS [1, 3] 400 (T := .ite (decide ((60 : Int) < l.length)) (.leaf (.ret [.bool true] [.box [.sl l.length 9 (evG l)]])) (.leaf (.loop (Prod.fst (lps K10 0)) (Prod.snd (lps K10 0)) [(1, .ptr 0 0), (3, .int .i64 0)] [.box [.sl l.length 9 (evG l)]]))) (by kernel_rfl) ?_
 simp only [Tree.holds, ze]
 refine ⟨fun h => RetR.scal (hq true fun g => (by cases g)) rfl rfl, fun h => ?_⟩
 have h60 : l.length ≤ 60 := by have := of_decide_eq_false h; omega
 refine zc.loop (ι := {i : Nat // i ≤ l.length ∧ ∀ j, j < i → zC (l.getD j Ev.nil)}) (fun i => SGl i.1) (fun _ => [.box [evS l]]) (fun i => l.length - i.1) ⟨0, Nat.zero_le _, fun j hj => by omega⟩ 0 ?_ ?_ (by kernel_rfl)
 ·exact ⟨by simp [SGl], by simp [evS, za], by kernel_rfl, Nat.zero_le _⟩
 ·rintro ⟨i, hil, hbe⟩
  refine zc.run hmix XS [1, 3] 400 (T := .ite (decide ((↑i : Int) < l.length)) (.side ((0 : Int) ≤ i ∧ (↑i : Int) < l.length) (.ex (fun (x : Ev) => eqL [AV.agg [AV.int .u8 (Ev.kind (List.getD l (Int.toNat (↑i : Int)) Ev.nil)), AV.int .i64 (Ev.id (List.getD l (Int.toNat (↑i : Int)) Ev.nil)), AV.int .i64 (Ev.entry (List.getD l (Int.toNat (↑i : Int)) Ev.nil)), AV.int .i64 (Ev.target (List.getD l (Int.toNat (↑i : Int)) Ev.nil)), AV.int .i64 (Ev.date (List.getD l (Int.toNat (↑i : Int)) Ev.nil)), AV.str (Ev.zb (List.getD l (Int.toNat (↑i : Int)) Ev.nil)), AV.str (Ev.name (List.getD l (Int.toNat (↑i : Int)) Ev.nil)), AV.str (Ev.value (List.getD l (Int.toNat (↑i : Int)) Ev.nil)), AV.bool (Ev.first (List.getD l (Int.toNat (↑i : Int)) Ev.nil))]] [AV.agg [AV.int .u8 x.kind, AV.int .i64 x.id, AV.int .i64 x.entry, AV.int .i64 x.target, AV.int .i64 x.date, AV.str x.zb, AV.str x.name, AV.str x.value, AV.bool x.first]] ∧ Xn x) fun n => .all (fun (r : Bool) => r = false → zC n) fun n => .ite n (.leaf (.ret [.bool true] [.box [.sl l.length 9 (evG l)]])) (.side (inR .i64 ((↑i : Int) + (1 : Int))) (.leaf (.back 0 [(1, .ptr 0 0), (3, .int .i64 ((↑i : Int) + (1 : Int)))] [.box [.sl l.length 9 (evG l)]]))))) (.leaf (.ret [.bool false] [.box [.sl l.length 9 (evG l)]]))) (by kernel_rfl) ?_
  simp only [Tree.holds, ze, Int.toNat_natCast, inR, lo, hi]
  refine ⟨fun h => ?_, fun h => ?_⟩
  ·have hlt : i < l.length := by have := of_decide_eq_true h; omega
   refine ⟨by omega, fun _ => ⟨l.getD i Ev.nil, ⟨by simp [Ev.av], hp.2 i hlt⟩, ⟨true, fun g => (by cases g)⟩, ?_⟩⟩
   intro b hb
   refine ⟨fun g => RetR.scal (hq true fun g => (by cases g)) rfl rfl, fun g => ⟨by omega, fun _ => ?_⟩⟩
   rw [if_pos trivial]
   refine ⟨⟨i + 1, hlt, fun j hj => ?_⟩, by show l.length - (i + 1) < l.length - i; omega, ⟨by simp [SGl], by simp [evS, za], by kernel_rfl, Nat.zero_le _⟩⟩
   by_cases e : j = i
   ·rw [e]; exact hb g
   ·exact hbe j (by omega)
  ·have hge : i = l.length := by have := of_decide_eq_false h; omega
   refine RetR.scal (hq false fun _ => ⟨h60, fun e he => ?_⟩) rfl rfl
   obtain ⟨j, hj, rfl⟩ := List.mem_iff_getElem.1 he
   have := hbe j (by omega)
   rwa [jl hj] at this
end Go.Proofs.Try
end

/- The store's example. -/
section
set_option maxRecDepth 100000
open Go Go.Sx Go.Proofs Go.Nov
namespace Go.Proofs.Try
attribute [local simp] eqKV eqA eqA0 eqH eqB eqL eqL0
noncomputable def K26 : List Go.Sx.Item := [.code (Try.f26.body.getD .skip)]
def exaC : Ctr := ctrP false (fun _ : Unit => []) (fun _ => True) (fun _ (_ : Unit) => True) (fun _ _ => (.tup [.agg [evS exL], .bool true], []))
def SXa (i : Nat) : KV := [(0, .ptr 0 0), (2, .ptr 1 0), (11, .osl 4 9 0 4), (12, .int .i64 4), (13, .int .i64 i)]
def HXa (i : Nat) : Heap := [.box [.nils], .box [evS (exL.take i)], .dead, .dead, .arr 4 9 (evG exL)]
noncomputable def fixI : Ctr := inlC Try.prog noG 100 Try.f27
theorem zaf : zd Try.prog 27 fixI := ZJ hmix z2 rfl rfl
noncomputable def GXa : Nat → Option Ctr := fun f => if f = 12 then some (UD) else if f = 27 then some (fixI) else none
theorem XA : ∀ g c, GXa g = some c → zd Try.prog g c := okIf YH (okIf zaf (zr))
theorem zam : zd Try.prog 26 exaC := by
 refine zm (fn := Try.f26) (c := Try.f26.body.getD .skip) rfl rfl rfl fun p hp O w0 Q hq => ?_
 replace hq := hq () trivial
 refine zc.run hmix XA [0, 2, 11, 12, 13] 400 (T := .leaf (.loop (Prod.fst (lps K26 0)) (Prod.snd (lps K26 0)) [(0, .ptr 0 0), (2, .ptr 1 0), (11, .osl 4 9 0 4), (12, .int .i64 4), (13, .int .i64 0)] [.box [.nils], .box [.nils], .box [.int .u8 1, .int .i64 1, .int .i64 50, .int .i64 0, .int .i64 46340, .str (Array.toList #[]), .str (Array.toList #[(65 : UInt8), (67 : UInt8), (77 : UInt8), (69 : UInt8)]), .str (Array.toList #[(49 : UInt8), (48 : UInt8)]), .bool false], .box [.int .u8 1, .int .i64 4, .int .i64 70, .int .i64 0, .int .i64 46340, .str (Array.toList #[]), .str (Array.toList #[(65 : UInt8), (67 : UInt8), (77 : UInt8), (69 : UInt8)]), .str (Array.toList #[(49 : UInt8), (50 : UInt8)]), .bool false], .arr 4 9 (zf 9 [.int .u8 1, .int .i64 1, .int .i64 50, .int .i64 0, .int .i64 46340, .str (Array.toList #[]), .str (Array.toList #[(65 : UInt8), (67 : UInt8), (77 : UInt8), (69 : UInt8)]), .str (Array.toList #[(49 : UInt8), (48 : UInt8)]), .bool false, .int .u8 3, .int .i64 2, .int .i64 60, .int .i64 1, .int .i64 0, .str (Array.toList #[]), .str (Array.toList #[]), .str (Array.toList #[(49 : UInt8), (49 : UInt8)]), .bool false, .int .u8 5, .int .i64 3, .int .i64 70, .int .i64 1, .int .i64 0, .str (Array.toList #[]), .str (Array.toList #[]), .str (Array.toList #[]), .bool false, .int .u8 1, .int .i64 4, .int .i64 70, .int .i64 0, .int .i64 46340, .str (Array.toList #[]), .str (Array.toList #[(65 : UInt8), (67 : UInt8), (77 : UInt8), (69 : UInt8)]), .str (Array.toList #[(49 : UInt8), (50 : UInt8)]), .bool false])])) (by kernel_rfl) ?_
 simp only [Tree.holds, ze]
 refine zc.loop (ι := {i : Nat // i ≤ 4}) (fun i => SXa i.1) (fun i => HXa i.1) (fun i => 4 - i.1) ⟨0, by decide⟩ 0 ?_ ?_ (by kernel_rfl)
 ·refine ⟨by simp [SXa], ⟨by simp, by simp [evS, exL], trivial, trivial, ⟨rfl, rfl, fun j o hj ho => ?_⟩, trivial⟩, by kernel_rfl, Nat.zero_le _⟩
  rcases (show j = 0 ∨ j = 1 ∨ j = 2 ∨ j = 3 by omega) with rfl | rfl | rfl | rfl <;> rcases (show o = 0 ∨ o = 1 ∨ o = 2 ∨ o = 3 ∨ o = 4 ∨ o = 5 ∨ o = 6 ∨ o = 7 ∨ o = 8 by omega) with rfl | rfl | rfl | rfl | rfl | rfl | rfl | rfl | rfl <;> rfl
 ·rintro ⟨i, hi4⟩
  refine zc.run hmix XA [0, 2, 11, 12, 13] 400 (T := .ite (decide ((↑i : Int) < 4)) (.side ((0 : Int) ≤ i ∧ (↑i : Int) < 4) (.ex (fun (x : List Ev × Ev) => eqL [AV.agg [AV.sl (List.length (List.take i exL)) 9 (evG (List.take i exL))], AV.agg [AV.int .u8 (Ev.kind (List.getD exL (0 + Int.toNat (↑i : Int)) Ev.nil)), AV.int .i64 (Ev.id (List.getD exL (0 + Int.toNat (↑i : Int)) Ev.nil)), AV.int .i64 (Ev.entry (List.getD exL (0 + Int.toNat (↑i : Int)) Ev.nil)), AV.int .i64 (Ev.target (List.getD exL (0 + Int.toNat (↑i : Int)) Ev.nil)), AV.int .i64 (Ev.date (List.getD exL (0 + Int.toNat (↑i : Int)) Ev.nil)), AV.str (Ev.zb (List.getD exL (0 + Int.toNat (↑i : Int)) Ev.nil)), AV.str (Ev.name (List.getD exL (0 + Int.toNat (↑i : Int)) Ev.nil)), AV.str (Ev.value (List.getD exL (0 + Int.toNat (↑i : Int)) Ev.nil)), AV.bool (Ev.first (List.getD exL (0 + Int.toNat (↑i : Int)) Ev.nil))]] [AV.agg [AV.sl x.1.length 9 (evG x.1)], AV.agg [AV.int .u8 x.2.kind, AV.int .i64 x.2.id, AV.int .i64 x.2.entry, AV.int .i64 x.2.target, AV.int .i64 x.2.date, AV.str x.2.zb, AV.str x.2.name, AV.str x.2.value, AV.bool x.2.first]] ∧ evP x.1 ∧ zC x.2) fun n => .all (fun (r : List Ev × Int) => r = appS n.1 n.2) fun n => .ite (!decide (n.2 = 0)) (.leaf (.ret [.agg [.sl (List.length (List.take i exL)) 9 (evG (List.take i exL))], .bool false] [.box [.sl (List.length (List.take i exL)) 9 (evG (List.take i exL))], .box [.sl (List.length (List.take i exL)) 9 (evG (List.take i exL))], .dead, .dead, .arr 4 9 (evG exL), .box [.int .u8 (Ev.kind (List.getD exL (0 + Int.toNat (↑i : Int)) Ev.nil)), .int .i64 (Ev.id (List.getD exL (0 + Int.toNat (↑i : Int)) Ev.nil)), .int .i64 (Ev.entry (List.getD exL (0 + Int.toNat (↑i : Int)) Ev.nil)), .int .i64 (Ev.target (List.getD exL (0 + Int.toNat (↑i : Int)) Ev.nil)), .int .i64 (Ev.date (List.getD exL (0 + Int.toNat (↑i : Int)) Ev.nil)), .str (Ev.zb (List.getD exL (0 + Int.toNat (↑i : Int)) Ev.nil)), .str (Ev.name (List.getD exL (0 + Int.toNat (↑i : Int)) Ev.nil)), .str (Ev.value (List.getD exL (0 + Int.toNat (↑i : Int)) Ev.nil)), .bool (Ev.first (List.getD exL (0 + Int.toNat (↑i : Int)) Ev.nil))], .box [.sl n.1.length 9 (evG n.1)]])) (.side (inR .i64 ((↑i : Int) + (1 : Int))) (.leaf (.back 0 [(0, .ptr 0 0), (2, .ptr 1 0), (11, .osl 4 9 0 4), (12, .int .i64 4), (13, .int .i64 ((↑i : Int) + (1 : Int)))] [.box [.nils], .box [.sl n.1.length 9 (evG n.1)], .dead, .dead, .arr 4 9 (evG exL), .box [.int .u8 (Ev.kind (List.getD exL (0 + Int.toNat (↑i : Int)) Ev.nil)), .int .i64 (Ev.id (List.getD exL (0 + Int.toNat (↑i : Int)) Ev.nil)), .int .i64 (Ev.entry (List.getD exL (0 + Int.toNat (↑i : Int)) Ev.nil)), .int .i64 (Ev.target (List.getD exL (0 + Int.toNat (↑i : Int)) Ev.nil)), .int .i64 (Ev.date (List.getD exL (0 + Int.toNat (↑i : Int)) Ev.nil)), .str (Ev.zb (List.getD exL (0 + Int.toNat (↑i : Int)) Ev.nil)), .str (Ev.name (List.getD exL (0 + Int.toNat (↑i : Int)) Ev.nil)), .str (Ev.value (List.getD exL (0 + Int.toNat (↑i : Int)) Ev.nil)), .bool (Ev.first (List.getD exL (0 + Int.toNat (↑i : Int)) Ev.nil))], .box [.sl n.1.length 9 (evG n.1)]]))))) (.leaf (.ret [.agg [.sl (List.length (List.take i exL)) 9 (evG (List.take i exL))], .bool true] [.box [.sl (List.length (List.take i exL)) 9 (evG (List.take i exL))], .box [.sl (List.length (List.take i exL)) 9 (evG (List.take i exL))], .dead, .dead, .arr 4 9 (evG exL)]))) (by kernel_rfl) ?_
  simp only [Tree.holds, ze, inR, lo, hi, Int.toNat_natCast, Nat.zero_add]
  refine ⟨fun h => ?_, fun h => ?_⟩
  ·have hlt : i < 4 := by have := of_decide_eq_true h; omega
   refine ⟨by omega, fun _ => ⟨(exL.take i, exL.getD i Ev.nil), ⟨by simp [Ev.av, evS, za], ⟨by rw [List.length_take]; have : exL.length = 4 := rfl; omega, fun e he => xu e (List.mem_of_mem_take he)⟩, kj xu i⟩, ⟨_, rfl⟩, ?_⟩⟩
   intro r hr
   replace hr : r = (exL.take (i + 1), 0) := hr.trans (YQ i hlt)
   subst hr
   refine ⟨fun g => (by cases g), fun _ => ⟨by omega, fun _ => ?_⟩⟩
   rw [if_pos trivial]
   exact ⟨⟨i + 1, hlt⟩, by show 4 - (i + 1) < 4 - i; omega, by simp [SXa], by simp [HXa, evS, za], by kernel_rfl, Nat.zero_le _⟩
  ·have hge : i = 4 := by have := of_decide_eq_false h; omega
   subst hge
   exact RetR.out0 hq (fun h => by cases h) (by simp [resV, exp2, exp1, exp0, ren0, eqA2, eqL1, evS, exL, za])
def Uu : Ctr := ctrP true (fun p : List Ev × Int × List UInt8 => [.agg [evS p.1], .int .i64 p.2.1, .str p.2.2]) (fun p => evP p.1) (fun p r => zI p.1 p.2.1 none = (([⟨acme, 46340, p.2.2⟩], []), 0) → r = true) (fun _ (r : Bool) => (.bool r, []))
noncomputable def GSs : Nat → Option Ctr := fun f => if f = 18 then some (Xc) else if f = 19 then some (J3) else none
theorem zad : ∀ g c, GSs g = some c → zd Try.prog g c := okIf WL (okIf XZ (zr))
theorem Uc : zd Try.prog 33 Uu := by
 refine zm (fn := Try.f33) (c := Try.f33.body.getD .skip) rfl rfl rfl fun p hp O w0 Q hq => ?_
 obtain ⟨l, tm, v⟩ := p
 refine zc.run hmix zad [] 400 (T := .ex (fun (x : List Ev × Int) => eqL [AV.agg [AV.sl l.length 9 (evG l)], AV.int .i64 tm] [AV.agg [AV.sl x.1.length 9 (evG x.1)], AV.int .i64 x.2] ∧ evP x.1) fun n => .all (fun (r : EnvL × Int) => r = zI n.1 n.2 none) fun n => .ite (decide (n.2 = 0) == true) (.ex (fun (x : (List Fx × List Ch) × List Fx × List Ch) => decide (n.2 = 0) = true → eqL [AV.agg [AV.sl n.1.1.length 3 (fxG n.1.1), AV.sl n.1.2.length 4 (chG n.1.2)], AV.agg [AV.sl 1 3 (zg (zf 3 [AV.str (Array.toList #[(65 : UInt8), (67 : UInt8), (77 : UInt8), (69 : UInt8)]), AV.int .i64 46340, AV.str v]) 0), AV.nils]] [AV.agg [AV.sl x.1.1.length 3 (fxG x.1.1), AV.sl x.1.2.length 4 (chG x.1.2)], AV.agg [AV.sl x.2.1.length 3 (fxG x.2.1), AV.sl x.2.2.length 4 (chG x.2.2)]] ∧ x.1.1.length < 1099511627776 ∧ x.1.2.length < 1099511627776) fun n_1 => .all (fun (x : Bool) => decide (n.2 = 0) = true → (x = true ↔ n_1.1 = n_1.2)) fun n_2 => .leaf (.ret [.bool (bif decide (n.2 = 0) then n_2 else false)] [.box [.sl l.length 9 (evG l)], .box [.sl n.1.1.length 3 (fxG n.1.1), .sl n.1.2.length 4 (chG n.1.2)], .arr 1 3 (zf 3 [.str (Array.toList #[(65 : UInt8), (67 : UInt8), (77 : UInt8), (69 : UInt8)]), .int .i64 46340, .str v])])) (.ex (fun (x : (List Fx × List Ch) × List Fx × List Ch) => decide (n.2 = 0) = true → eqL [AV.agg [AV.sl n.1.1.length 3 (fxG n.1.1), AV.sl n.1.2.length 4 (chG n.1.2)], AV.agg [AV.nils, AV.nils]] [AV.agg [AV.sl x.1.1.length 3 (fxG x.1.1), AV.sl x.1.2.length 4 (chG x.1.2)], AV.agg [AV.sl x.2.1.length 3 (fxG x.2.1), AV.sl x.2.2.length 4 (chG x.2.2)]] ∧ x.1.1.length < 1099511627776 ∧ x.1.2.length < 1099511627776) fun n_1 => .all (fun (x : Bool) => decide (n.2 = 0) = true → (x = true ↔ n_1.1 = n_1.2)) fun n_2 => .leaf (.ret [.bool (bif decide (n.2 = 0) then n_2 else false)] [.box [.sl l.length 9 (evG l)], .box [.sl n.1.1.length 3 (fxG n.1.1), .sl n.1.2.length 4 (chG n.1.2)]]))) (by kernel_rfl) ?_
 simp only [Tree.holds, ze]
 simp only [bifA]
 refine ⟨(l, tm), ⟨by simp [evS, za], hp⟩, ⟨_, rfl⟩, ?_⟩
 intro r hr
 replace hr : r = zI l tm none := hr
 have hle := V3 l tm none
 rw [← hr] at hle hq
 refine ⟨fun h => ?_, fun h => ?_⟩
 ·have h : r.2 = 0 := by simpa using h
  refine ⟨(r.1, ([⟨acme, 46340, v⟩], [])), fun _ => ⟨?_, Nat.lt_of_le_of_lt hle.1 (by decide), Nat.lt_of_le_of_lt hle.2 (by decide)⟩, ?_, ?_⟩
  ·refine ⟨by simp [za], ⟨⟨rfl, rfl, ?_⟩, by simp, trivial⟩, trivial⟩
   intro j o hj ho
   obtain rfl : j = 0 := by omega
   rcases (show o = 0 ∨ o = 1 ∨ o = 2 by omega) with rfl | rfl | rfl <;> rfl
  ·by_cases hx : r.1 = ([⟨acme, 46340, v⟩], [])
   ·exact ⟨true, fun _ => ⟨fun _ => hx, fun _ => rfl⟩⟩
   ·exact ⟨false, fun _ => ⟨fun g => (by cases g), fun g => absurd g hx⟩⟩
  ·intro b hb
   refine RetR.scal (hq _ ?_) rfl rfl
   intro g
   rw [g] at hb ⊢
   exact (hb rfl).2 rfl
 ·have h : ¬ r.2 = 0 := by simpa using h
  refine ⟨(r.1, ([], [])), fun g => absurd (of_decide_eq_true g) h, ⟨true, fun g => absurd (of_decide_eq_true g) h⟩, ?_⟩
  intro b hb
  refine RetR.scal (hq _ ?_) rfl rfl
  intro g
  rw [g] at h
  exact absurd rfl h
def Vp : Ctr := ctrP true (fun _ : Unit => []) (fun _ => True) (fun _ r => r = true) (fun _ (r : Bool) => (.bool r, []))
noncomputable def GAe : Nat → Option Ctr := fun f => if f = 26 then some (exaC) else if f = 33 then some (Uu) else if f = 18 then some (Xc) else none
theorem za4 : ∀ g c, GAe g = some c → zd Try.prog g c := okIf zam (okIf Uc (okIf WL (zr)))
theorem VD : zd Try.prog 17 Vp := by
 refine zm (fn := Try.f17) (c := Try.f17.body.getD .skip) rfl rfl rfl fun p hp O w0 Q hq => ?_
 replace hq := hq _ rfl
 refine zc.run hmix za4 [] 400 (T := .ex (fun (x : Unit) => eqL [] [] ∧ True) fun n => .all (fun (x : Unit) => True) fun n => .ex (fun (x : List Ev × Int) => eqL [AV.agg [AV.sl 4 9 (evG exL)], AV.int .i64 49] [AV.agg [AV.sl x.1.length 9 (evG x.1)], AV.int .i64 x.2] ∧ evP x.1) fun n => .all (fun (r : EnvL × Int) => r = zI n.1 n.2 none) fun n => .ex (fun (x : List Ev × Int × List UInt8) => (bif true then decide ((4 : Int) = 4) else false) = true → eqL [AV.agg [AV.sl 4 9 (evG exL)], AV.int .i64 50, AV.str (Array.toList #[(49 : UInt8), (48 : UInt8)])] [AV.agg [AV.sl x.1.length 9 (evG x.1)], AV.int .i64 x.2.1, AV.str x.2.2] ∧ evP x.1) fun n_1 => .all (fun (x : Bool) => (bif true then decide ((4 : Int) = 4) else false) = true → zI n_1.1 n_1.2.1 none = (([{ name := acme, date := (46340 : Int), value := n_1.2.2 }], []), (0 : Int)) → x = true) fun n_2 => .ex (fun (x : List Ev × Int × List UInt8) => (bif bif true then decide ((4 : Int) = 4) else false then n_2 else false) = true → eqL [AV.agg [AV.sl 4 9 (evG exL)], AV.int .i64 60, AV.str (Array.toList #[(49 : UInt8), (49 : UInt8)])] [AV.agg [AV.sl x.1.length 9 (evG x.1)], AV.int .i64 x.2.1, AV.str x.2.2] ∧ evP x.1) fun n_3 => .all (fun (x : Bool) => (bif bif true then decide ((4 : Int) = 4) else false then n_2 else false) = true → zI n_3.1 n_3.2.1 none = (([{ name := acme, date := (46340 : Int), value := n_3.2.2 }], []), (0 : Int)) → x = true) fun n_4 => .ex (fun (x : List Ev × Int × List UInt8) => (bif bif bif true then decide ((4 : Int) = 4) else false then n_2 else false then n_4 else false) = true → eqL [AV.agg [AV.sl 4 9 (evG exL)], AV.int .i64 69, AV.str (Array.toList #[(49 : UInt8), (49 : UInt8)])] [AV.agg [AV.sl x.1.length 9 (evG x.1)], AV.int .i64 x.2.1, AV.str x.2.2] ∧ evP x.1) fun n_5 => .all (fun (x : Bool) => (bif bif bif true then decide ((4 : Int) = 4) else false then n_2 else false then n_4 else false) = true → zI n_5.1 n_5.2.1 none = (([{ name := acme, date := (46340 : Int), value := n_5.2.2 }], []), (0 : Int)) → x = true) fun n_6 => .ex (fun (x : List Ev × Int × List UInt8) => (bif bif bif bif true then decide ((4 : Int) = 4) else false then n_2 else false then n_4 else false then n_6 else false) = true → eqL [AV.agg [AV.sl 4 9 (evG exL)], AV.int .i64 70, AV.str (Array.toList #[(49 : UInt8), (50 : UInt8)])] [AV.agg [AV.sl x.1.length 9 (evG x.1)], AV.int .i64 x.2.1, AV.str x.2.2] ∧ evP x.1) fun n_7 => .all (fun (x : Bool) => (bif bif bif bif true then decide ((4 : Int) = 4) else false then n_2 else false then n_4 else false then n_6 else false) = true → zI n_7.1 n_7.2.1 none = (([{ name := acme, date := (46340 : Int), value := n_7.2.2 }], []), (0 : Int)) → x = true) fun n_8 => .ex (fun (x : List Ev × Int × List UInt8) => (bif bif bif bif bif true then decide ((4 : Int) = 4) else false then n_2 else false then n_4 else false then n_6 else false then n_8 else false) = true → eqL [AV.agg [AV.sl 4 9 (evG exL)], AV.int .i64 1125899906842624, AV.str (Array.toList #[(49 : UInt8), (50 : UInt8)])] [AV.agg [AV.sl x.1.length 9 (evG x.1)], AV.int .i64 x.2.1, AV.str x.2.2] ∧ evP x.1) fun n_9 => .all (fun (x : Bool) => (bif bif bif bif bif true then decide ((4 : Int) = 4) else false then n_2 else false then n_4 else false then n_6 else false then n_8 else false) = true → zI n_9.1 n_9.2.1 none = (([{ name := acme, date := (46340 : Int), value := n_9.2.2 }], []), (0 : Int)) → x = true) fun n_10 => .leaf (.ret [.bool (bif bif bif bif bif bif bif bif true then decide ((4 : Int) = 4) else false then n_2 else false then n_4 else false then n_6 else false then n_8 else false then n_10 else false then decide (n.2 = 0) else false then decide ((↑n.1.1.length : Int) = 0) else false)] [.box [.sl 4 9 (evG exL)], .box [.sl n.1.1.length 3 (fxG n.1.1), .sl n.1.2.length 4 (chG n.1.2)]])) (by kernel_rfl) ?_
 simp only [Tree.holds, ze]
 have hE : evP exL := ⟨by decide, xu⟩
 obtain ⟨v1, v2, v3, v4, v5, v6⟩ := Kt
 simp only [bifA, Bool.true_and, decide_true]
 refine ⟨(), ⟨trivial, trivial⟩, ⟨(), trivial⟩, fun _ _ => ?_⟩
 refine ⟨(exL, 49), ⟨⟨⟨⟨rfl, rfl, za _ _ _⟩, trivial⟩, ⟨rfl, rfl⟩, trivial⟩, hE⟩, ⟨_, rfl⟩, ?_⟩
 intro r hr
 replace hr : r = (([], []), 0) := hr.trans v1
 subst hr
 refine ⟨(exL, 50, [49, 48]), fun _ => ⟨⟨⟨⟨rfl, rfl, za _ _ _⟩, trivial⟩, ⟨rfl, rfl⟩, rfl, trivial⟩, hE⟩, ⟨true, fun _ _ => rfl⟩, ?_⟩
 intro b0 hb0
 replace hb0 : b0 = true := hb0 trivial v2
 subst hb0
 refine ⟨(exL, 60, [49, 49]), fun _ => ⟨⟨⟨⟨rfl, rfl, za _ _ _⟩, trivial⟩, ⟨rfl, rfl⟩, rfl, trivial⟩, hE⟩, ⟨true, fun _ _ => rfl⟩, ?_⟩
 intro b1 hb1
 replace hb1 : b1 = true := hb1 rfl v3
 subst hb1
 refine ⟨(exL, 69, [49, 49]), fun _ => ⟨⟨⟨⟨rfl, rfl, za _ _ _⟩, trivial⟩, ⟨rfl, rfl⟩, rfl, trivial⟩, hE⟩, ⟨true, fun _ _ => rfl⟩, ?_⟩
 intro b2 hb2
 replace hb2 : b2 = true := hb2 rfl v4
 subst hb2
 refine ⟨(exL, 70, [49, 50]), fun _ => ⟨⟨⟨⟨rfl, rfl, za _ _ _⟩, trivial⟩, ⟨rfl, rfl⟩, rfl, trivial⟩, hE⟩, ⟨true, fun _ _ => rfl⟩, ?_⟩
 intro b3 hb3
 replace hb3 : b3 = true := hb3 rfl v5
 subst hb3
 refine ⟨(exL, 1125899906842624, [49, 50]), fun _ => ⟨⟨⟨⟨rfl, rfl, za _ _ _⟩, trivial⟩, ⟨rfl, rfl⟩, rfl, trivial⟩, hE⟩, ⟨true, fun _ _ => rfl⟩, ?_⟩
 intro b4 hb4
 replace hb4 : b4 = true := hb4 rfl v6
 subst hb4
 exact RetR.scal hq rfl rfl
end Go.Proofs.Try
end

/- Trails; older views. -/
section
namespace Go.Nov
theorem XT {l : List Ev} {id : Int} : ∀ {i j : Nat}, i ≤ j → j ≤ l.length → ∃ r, idsT l id j = idsT l id i ++ r := by
 intro i j hij hj
 induction j with
 | zero => exact ⟨[], by rw [show i = 0 by omega]; simp⟩
 | succ j ih =>
  rcases Nat.lt_or_ge j i with h | h
  ·exact ⟨[], by rw [show i = j + 1 by omega]; simp⟩
  ·obtain ⟨r, hr⟩ := ih h (by omega)
   rw [vX (show j < l.length by omega), hr]
   split
   ·exact ⟨r ++ [(l.getD j Ev.nil).id], by simp⟩
   ·exact ⟨r, rfl⟩
theorem Ug {l : List Ev} {s : SS} (I : Inv l s) {id : Int} {i : Nat} (hi : i < l.length) (ht : (l.getD i Ev.nil).target = id) : ∀ x ∈ idsT l id i, x < (i : Int) + 1 := by
 intro x hx
 unfold idsT at hx
 rcases List.mem_cons.1 hx with rfl | hx
 ·have := xH (I.val i hi)
  rw [I.ids i hi, ht] at this
  exact this
 ·obtain ⟨e, he, rfl⟩ := List.mem_map.1 hx
  have he := (List.mem_filter.1 he).1
  obtain ⟨j, hj, rfl⟩ := List.mem_iff_getElem.1 he
  rw [List.length_take] at hj
  rw [List.getElem_take]
  have := I.ids j (by omega)
  rw [jl (by omega)] at this
  omega
theorem XM {l : List Ev} {s : SS} (I : Inv l s) {id : Int} {i : Nat} (hi : i < l.length) (ht : (l.getD i Ev.nil).target = id) :
  (idsT l id i).length < (idsT l id l.length).length ∧ (idsT l id l.length).getD (idsT l id i).length 0 = (i : Int) + 1 ∧ (idsT l id l.length).getD ((idsT l id i).length - 1) 0 < (i : Int) + 1 := by
 have h1 := vX (id := id) hi
 rw [if_pos ht, I.ids i hi] at h1
 obtain ⟨r, hr⟩ := XT (l := l) (id := id) (i := i + 1) (j := l.length) (by omega) (Nat.le_refl _)
 have hpos : 0 < (idsT l id i).length := by unfold idsT; simp
 rw [hr, h1]
 refine ⟨by simp, by simp [List.getD], ?_⟩
 have : (idsT l id i ++ [(i : Int) + 1] ++ r).getD ((idsT l id i).length - 1) 0 = (idsT l id i)[(idsT l id i).length - 1] := by
  simp only [List.append_assoc, List.getD]
  rw [List.getElem?_append_left (by omega), List.getElem?_eq_getElem (by omega)]
  rfl
 rw [this]
 exact Ug I hi ht _ (List.getElem_mem _)
end Go.Nov
end

/- The law of StoreTrails holds of the code. -/
section
set_option maxRecDepth 100000
open Go Go.Sx Go.Proofs Go.Nov
namespace Go.Proofs.Try
attribute [local simp] eqKV eqA eqA0 eqH eqB eqL eqL0
noncomputable def K8 : List Go.Sx.Item := [.code (Try.f8.body.getD .skip)]
def STr (l : List Ev) (id : Int) (m i : Nat) : KV := [(1, .int .i64 id), (2, .ptr 0 0), (5, .bool true), (6, intS (idsT l id l.length)), (8, .int .i64 (m : Int)), (9, .int .i64 i), (78, .undef), (79, .undef), (80, .undef), (81, .undef), (82, .undef), (83, .undef), (84, .undef), (87, .undef), (88, .undef), (89, .undef), (90, .undef), (91, .undef), (92, .undef), (93, .undef), (94, .undef), (95, .undef), (96, .undef), (102, .undef), (103, .undef), (104, .undef), (105, .undef)]
def UB : Ctr := ctrP true (fun p : List Ev × Int => [.agg [evS p.1], .int .i64 p.2]) (fun p => Vu p.1 ∧ inR .i64 p.2) (fun _ r => r = true) (fun _ (r : Bool) => (.bool r, []))
noncomputable def GTr : Nat → Option Ctr := fun f => if f = 10 then some (Vn) else if f = 17 then some (Vp) else if f = 25 then some (JL) else if f = 15 then some (xr) else none
theorem Yg : ∀ g c, GTr g = some c → zd Try.prog g c := okIf Ko (okIf VD (okIf KK (okIf xZ (zr))))
theorem XJ : zd Try.prog 8 UB := by
 refine zm (fn := Try.f8) (c := Try.f8.body.getD .skip) rfl rfl rfl fun p hp O w0 Q hq => ?_
 obtain ⟨l, id⟩ := p
 replace hq := hq _ rfl
 refine zc.run hmix Yg [1, 2, 5, 6, 8, 9, 78, 79, 80, 81, 82, 83, 84, 87, 88, 89, 90, 91, 92, 93, 94, 95, 96, 102, 103, 104, 105] 400 (T := .ex (fun (x : Unit) => eqL [] [] ∧ True) fun n => .all (fun (r : Bool) => r = true) fun n => .ex (fun (x : List Ev) => eqL [AV.agg [AV.sl l.length 9 (evG l)]] [AV.agg [AV.sl x.length 9 (evG x)]] ∧ Vu x) fun n_1 => .all (fun (r : Bool) => r = false → fitL n_1) fun n_2 => .ite (bif n_2 then true else !n) (.leaf (.ret [.bool n] [.box [.sl l.length 9 (evG l)]])) (.ex (fun (x : List Ev × Int) => eqL [AV.agg [AV.sl l.length 9 (evG l)], AV.int .i64 id] [AV.agg [AV.sl x.1.length 9 (evG x.1)], AV.int .i64 x.2] ∧ evP x.1) fun n_3 => .all (fun (r : List Int × Int) => r = wo n_3.1 n_3.2) fun n_4 => .ite (!decide (n_4.2 = 0)) (.ex (fun (x : List Ev) => (bif n then decide ((↑n_4.1.length : Int) = 0) else false) = true → eqL [AV.agg [AV.sl l.length 9 (evG l)]] [AV.agg [AV.sl x.length 9 (evG x)]] ∧ evP x) fun n_5 => .all (fun (x : Int) => (bif n then decide ((↑n_4.1.length : Int) = 0) else false) = true → x = if Option.isSome (SS.play { evs := [], lat := [] } n_5) = true then (0 : Int) else (8 : Int)) fun n_6 => .leaf (.ret [.bool (bif bif n then decide ((↑n_4.1.length : Int) = 0) else false then bif bif !decide (n_6 = 0) then true else decide (id < 1) then true else decide ((↑l.length : Int) < id) else false)] [.box [.sl l.length 9 (evG l)]])) (.side (decide ((↑n_4.1.length : Int) < 1) = false → (0 : Int) ≤ 0 ∧ (0 : Int) < n_4.1.length) (.ite (bif decide ((↑n_4.1.length : Int) < 1) then true else !decide (List.getD n_4.1 0 (0 : Int) = id)) (.leaf (.ret [.bool false] [.box [.sl l.length 9 (evG l)]])) (.leaf (.loop (Prod.fst (lps K8 0)) (Prod.snd (lps K8 0)) [(1, .int .i64 id), (2, .ptr 0 0), (5, .bool n), (6, .sl n_4.1.length 1 fun (j x : Nat) => .int .i64 (List.getD n_4.1 j (0 : Int))), (8, .int .i64 1), (9, .int .i64 0), (78, .undef), (79, .undef), (80, .undef), (81, .undef), (82, .undef), (83, .undef), (84, .undef), (87, .undef), (88, .undef), (89, .undef), (90, .undef), (91, .undef), (92, .undef), (93, .undef), (94, .undef), (95, .undef), (96, .undef), (102, .undef), (103, .undef), (104, .undef), (105, .undef)] [.box [.sl l.length 9 (evG l)]])))))) (by kernel_rfl) ?_
 simp only [Tree.holds, ze]
 obtain ⟨hg, hu⟩ := hp
 have fin : ∀ (b : Bool) (h : Heap), b = true → RetR UB 0 Q [.bool b] h := by
  rintro b h rfl
  exact RetR.scal hq rfl rfl
 refine ⟨(), ⟨trivial, trivial⟩, ⟨true, rfl⟩, ?_⟩
 rintro _ rfl
 simp only [bifO, bifA, Bool.true_and]
 refine ⟨l, ⟨by simp [evS, za], hg⟩, ⟨true, fun g => (by cases g)⟩, ?_⟩
 intro g1 hg1
 refine ⟨fun _ => fin _ _ rfl, fun h => ?_⟩
 obtain rfl : g1 = false := by simpa using h
 have hf := hg1 rfl
 have hl : l.length ≤ 60 := hf.1
 have hP : evP l := ⟨by omega, hf.2⟩
 clear hg1 hu hg h
 refine ⟨(l, id), ⟨by simp [evS, za], hP⟩, ⟨_, rfl⟩, ?_⟩
 intro r hr
 replace hr : r = wo l id := hr
 refine ⟨fun h => ?_, fun h => ?_⟩
 ·have h : r.2 ≠ 0 := by simpa using h
  refine ⟨l, fun _ => ⟨by simp [evS, za], hP⟩, ⟨_, fun _ => rfl⟩, ?_⟩
  intro z hz
  refine fin _ _ ?_
  unfold wo at hr
  cases hv : (SS.play ⟨[], []⟩ l).isSome with
  | false =>
   rw [if_pos hv] at hr
   subst hr
   rw [hz (by simp), hv]
   rfl
  | true =>
   rw [if_neg (by rw [hv]; decide)] at hr
   by_cases g : id < 1 ∨ (l.length : Int) < id
   ·rw [if_pos g] at hr
    subst hr
    rw [hz (by simp), hv]
    have : (decide (id < 1) || decide ((l.length : Int) < id)) = true := by simpa using g
    simp
    exact g
   ·rw [if_neg g] at hr
    subst hr
    exact absurd rfl h
 ·have h : r.2 = 0 := by simpa using h
  have hv : (SS.play ⟨[], []⟩ l).isSome = true := by
   cases hv : (SS.play ⟨[], []⟩ l).isSome with
   | true => rfl
   | false =>
    unfold wo at hr
    rw [if_pos hv] at hr
    rw [hr] at h; cases h
  have hr1 : r.1 = idsT l id l.length := by
   unfold wo at hr
   rw [if_neg (by rw [hv]; decide)] at hr
   by_cases g : id < 1 ∨ (l.length : Int) < id
   ·rw [if_pos g] at hr
    rw [hr] at h; cases h
   ·rw [if_neg g] at hr
    rw [hr]
    unfold idsT
    rw [List.take_length]
  obtain ⟨s, hs⟩ := Option.isSome_iff_exists.1 hv
  have I := (JE (l := l)).2 s hs
  rw [hr1]
  have hpos : 0 < (idsT l id l.length).length := by unfold idsT; simp
  have h0 : (idsT l id l.length).getD 0 0 = id := by unfold idsT; simp
  refine ⟨fun _ => ⟨by omega, by omega⟩, fun _ => ⟨fun g => ?_, fun _ => ?_⟩⟩
  ·exfalso
   rw [Bool.or_eq_true, decide_eq_true_eq, Bool.not_eq_true', decide_eq_false_iff_not] at g
   rcases g with g | g
   ·omega
   ·exact g h0
  refine zc.loop (ι := {i : Nat // i ≤ l.length}) (fun i => STr l id (idsT l id i.1).length i.1) (fun i => [.box [evS l]]) (fun i => l.length - i.1) ⟨0, Nat.zero_le _⟩ 0 ?_ ?_ (by kernel_rfl)
  ·exact ⟨by simp [STr, intS, idsT]; exact za _ _ _, by simp [evS, za], by kernel_rfl, Nat.zero_le _⟩
  ·rintro ⟨i, hil⟩
   have hml := QJ l id i
   have hmp : 0 < (idsT l id i).length := by unfold idsT; simp
   obtain ⟨m, hm⟩ : ∃ m, m = (idsT l id i).length := ⟨_, rfl⟩
   simp only [← hm] at hml hmp ⊢
   refine zc.run hmix Yg [1, 2, 5, 6, 8, 9, 78, 79, 80, 81, 82, 83, 84, 87, 88, 89, 90, 91, 92, 93, 94, 95, 96, 102, 103, 104, 105] 400 (T := .ite (decide ((↑i : Int) < l.length)) (.side ((0 : Int) ≤ i ∧ (↑i : Int) < l.length) (.ite (decide (Ev.target (List.getD l (Int.toNat (↑i : Int)) Ev.nil) = id)) (.side (decide ((↑(idsT l id l.length).length : Int) ≤ m) = false → (0 : Int) ≤ m ∧ (↑m : Int) < (↑(idsT l id l.length).length : Int)) (.side (decide ((↑(idsT l id l.length).length : Int) ≤ m) = false → inR .i64 ((↑i : Int) + (1 : Int))) (.side ((bif decide ((↑(idsT l id l.length).length : Int) ≤ m) then true else !decide (List.getD (idsT l id l.length) (Int.toNat (↑m : Int)) (0 : Int) = i + (1 : Int))) = false → (0 : Int) ≤ m ∧ (↑m : Int) < (↑(idsT l id l.length).length : Int)) (.side ((bif decide ((↑(idsT l id l.length).length : Int) ≤ m) then true else !decide (List.getD (idsT l id l.length) (Int.toNat (↑m : Int)) (0 : Int) = i + (1 : Int))) = false → inR .i64 ((↑m : Int) - (1 : Int))) (.side ((bif decide ((↑(idsT l id l.length).length : Int) ≤ m) then true else !decide (List.getD (idsT l id l.length) (Int.toNat (↑m : Int)) (0 : Int) = i + (1 : Int))) = false → (0 : Int) ≤ m - (1 : Int) ∧ (↑m : Int) - (1 : Int) < (↑(idsT l id l.length).length : Int)) (.ite (bif bif decide ((↑(idsT l id l.length).length : Int) ≤ m) then true else !decide (List.getD (idsT l id l.length) (Int.toNat (↑m : Int)) (0 : Int) = i + (1 : Int)) then true else decide (List.getD (idsT l id l.length) (Int.toNat (↑m : Int)) (0 : Int) ≤ List.getD (idsT l id l.length) (Int.toNat ((↑m : Int) - (1 : Int))) (0 : Int))) (.leaf (.ret [.bool false] [.box [.sl l.length 9 (evG l)]])) (.side (inR .i64 ((↑m : Int) + (1 : Int))) (.side (inR .i64 ((↑i : Int) + (1 : Int))) (.leaf (.back 0 [(1, .int .i64 id), (2, .ptr 0 0), (5, .bool true), (6, .sl (idsT l id l.length).length 1 fun (j x : Nat) => .int .i64 (List.getD (idsT l id l.length) j (0 : Int))), (8, .int .i64 ((↑m : Int) + (1 : Int))), (9, .int .i64 ((↑i : Int) + (1 : Int))), (78, .undef), (79, .undef), (80, .undef), (81, .undef), (82, .undef), (83, .undef), (84, .undef), (87, .undef), (88, .undef), (89, .undef), (90, .undef), (91, .undef), (92, .undef), (93, .undef), (94, .undef), (95, .undef), (96, .undef), (102, .undef), (103, .undef), (104, .undef), (105, .undef)] [.box [.sl l.length 9 (evG l)]])))))))))) (.side (inR .i64 ((↑i : Int) + (1 : Int))) (.leaf (.back 0 [(1, .int .i64 id), (2, .ptr 0 0), (5, .bool true), (6, .sl (idsT l id l.length).length 1 fun (j x : Nat) => .int .i64 (List.getD (idsT l id l.length) j (0 : Int))), (8, .int .i64 m), (9, .int .i64 ((↑i : Int) + (1 : Int))), (78, .undef), (79, .undef), (80, .undef), (81, .undef), (82, .undef), (83, .undef), (84, .undef), (87, .undef), (88, .undef), (89, .undef), (90, .undef), (91, .undef), (92, .undef), (93, .undef), (94, .undef), (95, .undef), (96, .undef), (102, .undef), (103, .undef), (104, .undef), (105, .undef)] [.box [.sl l.length 9 (evG l)]]))))) (.leaf (.ret [.bool (bif true then decide ((↑m : Int) = (↑(idsT l id l.length).length : Int)) else false)] [.box [.sl l.length 9 (evG l)]]))) (by kernel_rfl) ?_
   simp only [Tree.holds, ze, inR, lo, hi, Int.toNat_natCast, Nat.zero_add]
   simp only [bifO]
   refine ⟨fun h => ?_, fun h => ?_⟩
   ·have hlt : i < l.length := by have := of_decide_eq_true h; omega
    have hsu := vX (id := id) hlt
    refine ⟨by omega, fun _ => ⟨fun ht => ?_, fun ht => ?_⟩⟩
    ·have ht := of_decide_eq_true ht
     rw [if_pos ht] at hsu
     obtain ⟨t1, t2, t3⟩ := XM I hlt ht
     rw [← hm] at t1 t2 t3
     have em : ((m : Int) - 1).toNat = m - 1 := by omega
     simp only [em]
     refine ⟨fun _ => by omega, fun _ => ⟨fun _ => by omega, fun _ => ⟨fun _ => by omega, fun _ => ⟨fun _ => by omega, fun _ => ⟨fun _ => by omega, fun _ => ⟨fun g => ?_, fun _ => ⟨by omega, fun _ => ⟨by omega, fun _ => ?_⟩⟩⟩⟩⟩⟩⟩⟩
     ·exfalso
      simp only [Bool.or_eq_true, Bool.not_eq_true', decide_eq_true_eq, decide_eq_false_iff_not] at g
      rcases g with (g | g) | g
      ·omega
      ·exact g t2
      ·rw [t2] at g; omega
     ·rw [if_pos trivial]
      have hl1 : (idsT l id (i + 1)).length = m + 1 := by rw [hsu]; simp [hm]
      exact ⟨⟨i + 1, hlt⟩, by show l.length - (i + 1) < l.length - i; omega, by simp [STr, intS, hl1]; exact za _ _ _, by simp [evS, za], by kernel_rfl, Nat.zero_le _⟩
    ·have ht := of_decide_eq_false ht
     rw [if_neg ht] at hsu
     refine ⟨by omega, fun _ => ?_⟩
     rw [if_pos trivial]
     have hl1 : (idsT l id (i + 1)).length = m := by rw [hsu, hm]
     exact ⟨⟨i + 1, hlt⟩, by show l.length - (i + 1) < l.length - i; omega, by simp [STr, intS, hl1]; exact za _ _ _, by simp [evS, za], by kernel_rfl, Nat.zero_le _⟩
   ·have hge : i = l.length := by have := of_decide_eq_false h; omega
    refine fin _ _ ?_
    rw [hm, hge]; simp
end Go.Proofs.Try
end

/- From a reading of the arguments to their representation; from a contract to a call. -/
section
namespace Go.Sx
variable [Stat]
open Go.RowKit (Below)
def E0 : Nat → Prop := Own (fun _ => False) []
theorem zaz (b : Nat) : ¬ E0 b := by
 rintro (h | ⟨e, he, _⟩)
 ·exact h
 ·simp at he
def Tw (P : Program) (W : World) (t : TypeId) (cs : List Value) : Prop := ∃ (H : Type) (enc : TypeId × Value → H) (base fuel : Nat) (d : DataW H) (ps : List MemPlace), DataW.trod enc P W base (fun _ => true) true fuel t cs = some (d, ps) ∧ ∀ n ∈ d.weights P t, n ≤ reachBytes
section
variable {P : Program} {W : World} {t e : TypeId} {cs : List Value}
theorem Wh (ht : P.underlying t = some .string) (h : Tw P W t cs) : ∃ s : List UInt8, cs = [.string ⟨s.toArray⟩] ∧ s.length ≤ reachBytes := by
 obtain ⟨H, enc, base, fuel, d, ps, h, hw⟩ := h
 obtain ⟨s, rfl, hx, _⟩ := DataW.trod_string ht h
 cases hx
 exact ⟨s.data.toList, by simp, hw _ (by simp [DataW.weights])⟩
theorem xL {k : IntKind} (ht : P.underlying t = some (.int k)) (h : Tw P W t cs) : ∃ n, cs = [.int k n] ∧ (Lit.int k n).wf = true := by
 obtain ⟨H, enc, base, fuel, d, ps, h, hw⟩ := h
 obtain ⟨n, rfl, hx, hwf⟩ := DataW.trod_int ht h
 exact ⟨n, rfl, hwf⟩
theorem YX (ht : P.underlying t = some .bool) (h : Tw P W t cs) : ∃ b, cs = [.bool b] := by
 obtain ⟨H, enc, base, fuel, d, ps, h, hw⟩ := h
 obtain ⟨b, rfl, hx⟩ := DataW.trod_bool ht h
 exact ⟨b, rfl⟩
theorem ZD {fs : Array Field} (ht : P.underlying t = some (.struct fs)) (h : Tw P W t cs) : cs.length = P.cellsOf t ∧ ∀ (i : Nat) (f : Field), fs[i]? = some f → Tw P W f.type ((cs.drop f.offset).take (P.cellsOf f.type)) := by
 obtain ⟨H, enc, base, fuel, d, ps, h, hw⟩ := h
 obtain ⟨xs, n, _, hx, hl, hlen, hf⟩ := DataW.trod_struct ht h
 cases hx
 refine ⟨hl, fun i f hfi => ?_⟩
 have hi := hf i f hfi
 have hlt : i < xs.length := by
  rw [hlen]; exact (Array.getElem?_eq_some_iff.1 hfi).1
 rw [List.getElem?_eq_getElem hlt] at hi
 refine ⟨H, enc, base, n, xs[i].1, xs[i].2, hi, fun m hm => hw m ?_⟩
 simp only [DataW.weights, ht]
 exact DataW.weights_mem_each (j := i) (t := f.type) (d := xs[i].1) (by simp [hfi]) (by simp [hlt]) m hm
theorem vE {H : Type} {d : DataW H} : ∀ {l : List (DataW H)}, d ∈ l → ∀ n ∈ d.weights P e, n ∈ DataW.weightsAll P e l
 | x :: l, hd, n, hn => by
  simp only [DataW.weightsAll, List.mem_append]
  rcases List.mem_cons.1 hd with rfl | hd
  ·exact .inl hn
  ·exact .inr (vE hd n hn)
theorem Xd (ht : P.underlying t = some (.slice e)) (h : Tw P W t cs) : cs = [.slice none 0 0] ∨ ∃ (a : Addr) (len cap : Nat), cs = [.slice (some a) len cap] ∧ len ≤ cap ∧ cap * P.bytesOf e ≤ reachBytes ∧
  ∀ i, i < len → ∃ cs', cs'.length = P.cellsOf e ∧ (∀ o, o < P.cellsOf e → W.cell? ((a.add (i * P.cellsOf e)).add o) = cs'[o]?) ∧ Tw P W e cs' := by
 obtain ⟨H, enc, base, fuel, d, ps, h, hw⟩ := h
 rcases DataW.trod_slice ht h with ⟨rfl, _⟩ | ⟨a, len, cap, elems, rest, n, _, rfl, hx, hb, hl, hm, hlen, hel, hsp, _⟩
 ·exact .inl rfl
 ·right
  cases hx
  obtain ⟨hrl, _⟩ := hsp rfl
  simp only [DataW.weights, ht] at hw
  refine ⟨a, len, cap, rfl, hl, ?_, fun i hi => ?_⟩
  ·have := hw _ (List.mem_cons_self)
   simp only [List.length_map, hlen, hrl] at this
   rwa [show len + (cap - len) = cap by omega] at this
  ·have h1 := hel i hi
   have hlt : i < elems.length := by rw [hlen]; exact hi
   rw [List.getElem?_eq_getElem hlt, Option.bind_eq_some_iff] at h1
   obtain ⟨cs', h2, h3⟩ := h1
   obtain ⟨_, h4, h5⟩ := World.cells?_some h2
   refine ⟨cs', h4, h5, H, enc, base, n, elems[i].1, elems[i].2, h3, fun m hm2 => hw m ?_⟩
   simp only [List.mem_cons, List.mem_append]
   exact .inr (.inl (vE (d := elems[i].1) (List.mem_map.2 ⟨elems[i], List.getElem_mem hlt, rfl⟩) m hm2))
theorem V1 {α : Type} (z : α) (cell : α → Nat → AV) (good : α → Prop) {sz : Nat} (ht : P.underlying t = some (.slice e)) (hsz : P.cellsOf e = sz) (hpos : 0 < sz)
  (hel : ∀ cs', Tw P W e cs' → ∃ x : α, good x ∧ ∀ o, o < sz → ∃ c, cs'[o]? = some c ∧ c.oneCell' = true ∧ Rep E0 W (cell x o) [] c) (h : Tw P W t cs) :
  ∃ (l : List α) (v : Value), cs = [v] ∧ (∀ x ∈ l, good x) ∧ l.length * P.bytesOf e ≤ reachBytes ∧ v.oneCell' = true ∧ Rep E0 W (.sl l.length sz fun j => cell (l.getD j z)) [] v := by
 rcases Xd ht h with rfl | ⟨a, len, cap, rfl, hl, hw, hx⟩
 ·refine ⟨[], _, rfl, by simp, by simp, rfl, ?_⟩
  simp only [Rep]
  exact ⟨none, 0, rfl, Nat.le_refl _, .inl rfl⟩
 ·rw [hsz] at hx
  have hx2 : ∀ i, ∃ x : α, i < len → good x ∧ ∀ o, o < sz → ∃ c, W.cell? ((a.add (i * sz)).add o) = some c ∧ c.oneCell' = true ∧ Rep E0 W (cell x o) [] c := fun i => by
   by_cases hi : i < len
   ·obtain ⟨cs', h1, h2, h3⟩ := hx i hi
    obtain ⟨x, hg, hc⟩ := hel cs' h3
    exact ⟨x, fun _ => ⟨hg, fun o ho => by
     obtain ⟨c, g1, g2, g3⟩ := hc o ho
     exact ⟨c, by rw [h2 o ho, g1], g2, g3⟩⟩⟩
   ·exact ⟨z, fun h => absurd h hi⟩
  obtain ⟨f, hf⟩ := Classical.axiomOfChoice hx2
  have hgd : ∀ j, j < len → ((List.range len).map f).getD j z = f j := fun j hj => by simp [List.getD, hj]
  refine ⟨(List.range len).map f, _, rfl, fun x hxm => ?_, ?_, rfl, ?_⟩
  ·obtain ⟨i, hi, rfl⟩ := List.mem_map.1 hxm
   exact (hf i (List.mem_range.1 hi)).1
  ·simp only [List.length_map, List.length_range]
   exact Nat.le_trans (Nat.mul_le_mul_right _ hl) hw
  ·simp only [Rep, List.length_map, List.length_range]
   refine ⟨some a, cap, rfl, hl, ?_⟩
   rcases Nat.eq_zero_or_pos len with h0 | h0
   ·exact .inl h0
   ·right
    have hspot : a.spot = none := by
     obtain ⟨c, g1, _⟩ := (hf 0 h0).2 0 hpos
     have := World.cell?_spot g1
     simpa [Addr.add] using this
    refine ⟨a, rfl, hspot, fun j o hj ho => ⟨zaz _, ?_⟩⟩
    obtain ⟨c, g1, g2, g3⟩ := (hf j hj).2 o ho
    refine ⟨c, ?_, g2, by rw [hgd j hj]; exact g3⟩
    rw [← g1]
    obtain ⟨b, off, spot⟩ := a
    simp only at hspot
    subst hspot
    congr 1
    simp only [Addr.add]
    split <;> split <;> simp_all <;> omega
theorem Kb {g : Nat} {fn : Func} {c : Code} (hf : P.funcs[g]? = some fn) (hb : fn.body = some c) (hn : (fn.name == "runtime.NumGoroutine") = false) {ctr : Ctr} (hok : zd P g ctr) {args : List AV} {vals : List Value}
  (hspec : (ctr.spec args []).holds fun r => r = (.bool true, [])) (hr : RepL E0 W args [] vals) (hst : wJ E0 W) : Calls P g vals.toArray W fun e W' => e = .returned (.bool true) ∧ Below W.heap.size W W' := by
 have hn' : ¬ fn.name = "runtime.NumGoroutine" := by simpa using hn
 have hg : Good (fun _ => False) W [] := ⟨fun b h => h.elim, fun i e ad he => by simp at he, hst⟩
 have hh : HRep (Own (fun _ => False) []) W [] [] := ⟨rfl, fun i j e f a b he => by simp at he, fun i e a he => by simp at he, fun i e b he => by simp at he⟩
 rcases hok args [] _ hspec (fun _ => rfl) (fun _ => False) W [] vals hg hh hr with ⟨_, h⟩ | ⟨v, w', h, _⟩
 ·refine h.mono ?_
  rintro e W' ⟨v, rfl, r, hs, σ', hq, h1, _, _, _, _, hx⟩
  cases hq
  simp only [Rep] at h1
  subst h1
  exact ⟨rfl, hx.os, hx.tape, hx.output, hx.size, fun k hk => hx.keep k hk fun ⟨e, he, _⟩ => by simp at he⟩
 ·simp [callFunc, hf, hn', hb] at h
end
end Go.Sx
end

/- Recursive data as arguments; package-level maps that read as they are laid. -/
section
namespace Go.Sx
variable [Stat]
section
variable {P : Program} {W : World} {t e : TypeId} {cs : List Value}
end
section
open Go.WideElems Go.ChangeMaps
variable {H : Type} {enc : TypeId × Value → H} {P : Program} {W : World} {base : Nat} {sp : Nat → Bool} {held : Bool}
end
end Go.Sx
end

/- What rows hand to laws about logs: arguments as data. -/
section
set_option maxRecDepth 100000
namespace Go.Proofs.Ythhkojokgcngnaa
open Go Go.Sx Go.Nov Go.Proofs.Try Go.ChangeShapes Go.WideShapes Go.ChangeAt Go.RowKit
theorem Z6 : Try.prog.cellsOf 9 = 1 := by kernel_rfl
theorem Kl : Try.prog.cellsOf 25 = 1 := by kernel_rfl
theorem kg : Try.prog.cellsOf 3 = 1 := by kernel_rfl
theorem XG : Try.prog.cellsOf 5 = 1 := by kernel_rfl
theorem JY : Try.prog.cellsOf 4 = 1 := by kernel_rfl
theorem Q0 : Try.prog.cellsOf 27 = 9 := by kernel_rfl
theorem VH : Try.prog.cellsOf 22 = 1 := by kernel_rfl
theorem Vw : Try.prog.cellsOf 24 = 1 := by kernel_rfl
theorem KC {W : World} {cs : List Value} (h : Tw Try.prog W 27 cs) : ∃ x : Ev, (x.zb.length ≤ reachBytes ∧ x.name.length ≤ reachBytes ∧ x.value.length ≤ reachBytes) ∧ cs = [.int .u8 x.kind, .int .i64 x.id, .int .i64 x.entry, .int .i64 x.target, .int .i64 x.date, .string ⟨x.zb.toArray⟩, .string ⟨x.name.toArray⟩, .string ⟨x.value.toArray⟩, .bool x.first] := by
 obtain ⟨hl, hf⟩ := ZD Try.underlying27 h
 rw [Q0] at hl
 match cs, hl with
 | [a, b, c, d, e, f, g, h, i], _ =>
  have h0 : Tw Try.prog W 5 (([a, b, c, d, e, f, g, h, i].drop 0).take (Try.prog.cellsOf 5)) := hf 0 _ rfl
  rw [XG] at h0
  replace h0 : Tw Try.prog W 5 [a] := h0
  have h1 : Tw Try.prog W 3 (([a, b, c, d, e, f, g, h, i].drop 1).take (Try.prog.cellsOf 3)) := hf 1 _ rfl
  rw [kg] at h1
  replace h1 : Tw Try.prog W 3 [b] := h1
  have h2 : Tw Try.prog W 3 (([a, b, c, d, e, f, g, h, i].drop 2).take (Try.prog.cellsOf 3)) := hf 2 _ rfl
  rw [kg] at h2
  replace h2 : Tw Try.prog W 3 [c] := h2
  have h3 : Tw Try.prog W 3 (([a, b, c, d, e, f, g, h, i].drop 3).take (Try.prog.cellsOf 3)) := hf 3 _ rfl
  rw [kg] at h3
  replace h3 : Tw Try.prog W 3 [d] := h3
  have h4 : Tw Try.prog W 3 (([a, b, c, d, e, f, g, h, i].drop 4).take (Try.prog.cellsOf 3)) := hf 4 _ rfl
  rw [kg] at h4
  replace h4 : Tw Try.prog W 3 [e] := h4
  have h5 : Tw Try.prog W 9 (([a, b, c, d, e, f, g, h, i].drop 5).take (Try.prog.cellsOf 9)) := hf 5 _ rfl
  rw [Z6] at h5
  replace h5 : Tw Try.prog W 9 [f] := h5
  have h6 : Tw Try.prog W 9 (([a, b, c, d, e, f, g, h, i].drop 6).take (Try.prog.cellsOf 9)) := hf 6 _ rfl
  rw [Z6] at h6
  replace h6 : Tw Try.prog W 9 [g] := h6
  have h7 : Tw Try.prog W 25 (([a, b, c, d, e, f, g, h, i].drop 7).take (Try.prog.cellsOf 25)) := hf 7 _ rfl
  rw [Kl] at h7
  replace h7 : Tw Try.prog W 25 [h] := h7
  have h8 : Tw Try.prog W 4 (([a, b, c, d, e, f, g, h, i].drop 8).take (Try.prog.cellsOf 4)) := hf 8 _ rfl
  rw [JY] at h8
  replace h8 : Tw Try.prog W 4 [i] := h8
  obtain ⟨x0, y0, w0⟩ := xL Try.underlying5 h0
  obtain ⟨x1, y1, w1⟩ := xL Try.underlying3 h1
  obtain ⟨x2, y2, w2⟩ := xL Try.underlying3 h2
  obtain ⟨x3, y3, w3⟩ := xL Try.underlying3 h3
  obtain ⟨x4, y4, w4⟩ := xL Try.underlying3 h4
  obtain ⟨x5, y5, w5⟩ := Wh Try.underlying9 h5
  obtain ⟨x6, y6, w6⟩ := Wh Try.underlying9 h6
  obtain ⟨x7, y7, w7⟩ := Wh Try.underlying25 h7
  obtain ⟨x8, y8⟩ := YX Try.underlying4 h8
  cases y0; cases y1; cases y2; cases y3; cases y4; cases y5; cases y6; cases y7; cases y8
  exact ⟨⟨x0, x1, x2, x3, x4, x5, x6, x7, x8⟩, ⟨w5, w6, w7⟩, rfl⟩
theorem V6 {W : World} {cs : List Value} (h : Tw Try.prog W 24 cs) : ∃ l : List Ev, Vu l ∧ Rep E0 W (.agg [evS l]) [] (.agg cs.toArray) := by
 obtain ⟨hl, hf⟩ := ZD Try.underlying24 h
 rw [Vw] at hl
 match cs, hl with
 | [a], _ =>
  have h0 : Tw Try.prog W 22 (([a].drop 0).take (Try.prog.cellsOf 22)) := hf 0 _ rfl
  rw [VH] at h0
  replace h0 : Tw Try.prog W 22 [a] := h0
  obtain ⟨l, v, e1, gl, wl, _, rl⟩ := V1 Ev.nil Ev.cell (fun x => x.zb.length ≤ reachBytes ∧ x.name.length ≤ reachBytes ∧ x.value.length ≤ reachBytes) Try.underlying22 Q0 (by decide) (fun cs' h' => by
   obtain ⟨x, hx, rfl⟩ := KC h'
   refine ⟨x, hx, fun o ho => ?_⟩
   match o, ho with
   | 0, _ => exact ⟨_, rfl, rfl, by simp [Rep, Ev.cell]⟩
   | 1, _ => exact ⟨_, rfl, rfl, by simp [Rep, Ev.cell]⟩
   | 2, _ => exact ⟨_, rfl, rfl, by simp [Rep, Ev.cell]⟩
   | 3, _ => exact ⟨_, rfl, rfl, by simp [Rep, Ev.cell]⟩
   | 4, _ => exact ⟨_, rfl, rfl, by simp [Rep, Ev.cell]⟩
   | 5, _ => exact ⟨_, rfl, rfl, by simp [Rep, Ev.cell]⟩
   | 6, _ => exact ⟨_, rfl, rfl, by simp [Rep, Ev.cell]⟩
   | 7, _ => exact ⟨_, rfl, rfl, by simp [Rep, Ev.cell]⟩
   | 8, _ => exact ⟨_, rfl, rfl, by simp [Rep, Ev.cell]⟩) h0
  have b1 : Try.prog.bytesOf 27 = 96 := by kernel_rfl
  rw [b1] at wl
  have hr := reachBytes_lt
  refine ⟨l, ⟨by omega, fun j hj => ?_⟩, ?_⟩
  ·have := gl (l.getD j Ev.nil) (by simp [List.getD, hj])
   exact ⟨by omega, by omega, by omega⟩
  ·simp only [RepL, Rep]
   cases e1
   exact ⟨_, rfl, _, _, rfl, rl, rfl⟩
theorem YI {W : World} {cs : List Value} (h : Tw Try.prog W 3 cs) : ∃ n : Int, cs = [.int .i64 n] ∧ inR .i64 n ∧ Rep E0 W (.int .i64 n) [] (.int .i64 n) := by
 obtain ⟨n, rfl, hn⟩ := xL Try.underlying3 h
 refine ⟨n, rfl, ?_, by simp [Rep]⟩
 simp only [Lit.wf, Bool.and_eq_true, decide_eq_true_eq] at hn
 exact hn
end Go.Proofs.Ythhkojokgcngnaa
end

/- For every input the law returns true, and each argument reads behind the call as it read before. -/
section
set_option maxRecDepth 100000
namespace Go.Proofs.Ythhkojokgcngnaa
open Go Go.Sx Go.Nov Go.Proofs.Try Go.ChangeShapes Go.WideShapes Go.ChangeAt Go.RowKit
theorem walk {W : World} {v0 v1 : List Value} (h0 : Tw Try.prog W 24 v0) (h1 : Tw Try.prog W 3 v1) :
  ∃ s1 : Value, v1 = [s1] ∧ Calls Try.prog 8 #[.agg v0.toArray, s1] W fun e W' => e = .returned (.bool true) ∧ Below W.heap.size W W' := by
 obtain ⟨l, lg, lr⟩ := V6 h0
 obtain ⟨id, rfl, idg, idr⟩ := YI h1
 refine ⟨_, rfl, ?_⟩
 refine Kb (fn := Try.f8) (c := Try.f8.body.getD .skip) rfl rfl rfl XJ (args := [.agg [evS l], .int .i64 id]) (vals := [.agg v0.toArray, .int .i64 id]) ?_ ?_ VU
 ·refine ⟨(l, id), ⟨?_, ⟨lg, idg⟩⟩, ⟨true, rfl⟩, ?_⟩
  ·simp [eqL, eqA, eqA0, eqL0, envA, fxS, chS, Fx.av, Ch.av, Ex.exA, Ex.exS, evS,Ev.av, za]
  ·rintro _ rfl
   rfl
 ·exact ⟨_, _, rfl, lr, ⟨_, _, rfl, idr, rfl⟩⟩
theorem own : ownKnob Try.prog.godebug = none := by kernel_rfl
theorem laid : laidOutB Try.prog = true := by kernel_rfl
theorem lifted (os : Os) (started : os.Started) (H : Type) (enc : TypeId × Value → H) :
  ReturnsInHanded {} Try.checked os 8 .any (Rows.storeTrailsSpec.pre6 enc Try.prog Try.f8 Rows.storeTrailsRow.domain false) (Rows.storeTrailsSpec.post enc Try.prog Try.f8 false true false false) := by
 refine returnsInHanded_of_change_sized (C := Try.checked) own started (by kernel_rfl) Try.func8
  (ChangeSpec.witness6 (enc := enc) (C := Try.checked) false ⟨#[], #[.agg #[.slice none 0 0], .int .i64 0], []⟩ 8 (by kernel_rfl) (by kernel_rfl) (by kernel_rfl) (by kernel_rfl)) ?_
 intro W base args ds gs before hval0 hW hcnd hwt _
 have hval : ∀ (j : Nat) t v, Try.f8.params[j]? = some t → args[j]? = some v → Value.okWide Try.prog W .any base t v := hval0
 have hW' := hW
 obtain ⟨p, q, hA0, hV, rfl, hfz, hnd⟩ := hW
 have hA : DataW.TrodAll enc Try.prog W 0 (fun _ => true) true Try.f8.params.toList args.toList ds p := hA0
 rw [Try.params8] at hA hval
 obtain ⟨v0, vs0, d0, ds0, p0, q0, hargs, rfl, rfl, h0, r0⟩ := trodAll_cons hA
 obtain ⟨v1, vs1, d1, ds1, p1, q1, rfl, rfl, rfl, h1, r1⟩ := trodAll_cons r0
 obtain ⟨rfl, rfl, rfl⟩ := trodAll_nil r1
 obtain rfl : args = #[v0, v1] := by cases args; simp_all
 obtain ⟨rfl, rfl⟩ := trodVars_none hV
 clear hA0 hval0
 simp only [List.append_nil] at hW' hwt
 have hw : ∀ (j : Nat) (t : TypeId) (d : DataW H), [24, 3][j]? = some t → [d0, d1][j]? = some d → ∀ n ∈ d.weights Try.prog t, n ≤ reachBytes := fun j t d ht hd n hn => by
  have := List.all_eq_true.1 hwt n (DataW.weights_mem_each (j := j) (t := t) (d := d) (by exact ht) (by exact hd) n hn)
  simpa using this
 obtain ⟨c0, rfl, _⟩ := okWide_struct Try.underlying24 (hval 0 24 v0 rfl rfl)
 obtain ⟨c1, rfl⟩ := okWide_int Try.underlying3 (hval 1 3 v1 rfl rfl)
 have t0 : Tw Try.prog W 24 c0.toList := by
  obtain ⟨fuel, hf⟩ := h0
  exact ⟨H, enc, 0, fuel, d0, p0, by simpa [Value.cells] using hf, hw 0 _ d0 rfl rfl⟩
 have t1 : Tw Try.prog W 3 [.int .i64 c1] := by
  obtain ⟨fuel, hf⟩ := h1
  exact ⟨H, enc, 0, fuel, d1, p1, by simpa [Value.cells] using hf, hw 1 _ d1 rfl rfl⟩
 have hlt : ∀ x ∈ p0 ++ p1, x.block < W.heap.size := fun x hx => by simpa using hW'.lt x (by simpa using hx)
 obtain ⟨s1, e1, hcall⟩ := walk t0 t1
 cases e1
 simp only [Array.toArray_toList] at hcall
 refine hcall.mono fun e W' ⟨he, hb⟩ => ?_
 subst he
 refine ⟨_, rfl, _, _, _, [], p0 ++ p1, [], hW', trodAll_mk1 (shut_bool Try.underlying4 true), ?_, rfl, hb.frame _, fun h => by cases h⟩
 exact trodAll_mk2 (Below.trod laid (by kernel_rfl) (of_decide_eq_true (by kernel_rfl)) h0 hb fun x hx => hlt x (by simp [hx])) (Below.trod laid (by kernel_rfl) (of_decide_eq_true (by kernel_rfl)) h1 hb fun x hx => hlt x (by simp [hx]))
theorem over : Rows.storeTrailsRow.holds Try.pinned (OpenSpec.ofChange Rows.storeTrailsSpec) :=
 OpenClaim.holds_of_wide 8 Try.f8 rfl rfl rfl rfl rfl rfl rfl ⟨rfl, rfl, rfl, rfl, rfl⟩ rfl rfl rfl rfl rfl (by kernel_rfl) Try.func8 (by kernel_rfl)
  (of_decide_eq_true (by kernel_rfl)) (by unfold Func.isWrapper; first | (rw [if_pos (by decide +kernel)]; kernel_rfl) | (rw [if_neg (by decide +kernel)]; exact ⟨rfl, rfl⟩))
  (fun os started H enc _ => lifted os started H enc)
theorem storeTrails_holds : Rows.StoreTrailsSaid := over
end Go.Proofs.Ythhkojokgcngnaa
end
