/- The law returns true for every input, and each argument reads afterwards as it read before; no condition. -/
import Derived.Test.YthhkojokgcngnaaSxf
import Derived.KernelRfl
import Derived.SizedLaws
import Derived.ChangeArms
import Derived.Deep.Slices
import Derived.Carry
import Derived.LaidMore
import Derived.WideKeyElems2
import Derived.ProofKit
import Derived.OpenShut
import Derived.ReadAgain
import Derived.Test.YthhkojokgcngnaaRows
set_option linter.unusedVariables false
set_option linter.unusedSimpArgs false
set_option linter.unusedSectionVars false

/- The store: what is known. -/
section
set_option maxRecDepth 100000
open Go Go.Sx Go.Proofs Go.Nov
namespace Go.Proofs.Try
attribute [local simp] eqKV eqA eqA0 eqH eqB eqL eqL0
noncomputable def K34 : List Go.Sx.Item := [.code (Try.f34.body.getD .skip)]
theorem JB {l : List Ev} {n : Nat} (h : n ≤ l.length) : eqG n 9 (zg (evG l) 0) (evG (l.take n)) := by
 intro j o hj ho
 simp only [zg, evG, Nat.zero_add]
 congr 1
 simp only [List.getD]
 rw [List.getElem?_take, if_pos hj]
theorem UE {l : List Ev} {tm : Int} : (if idxB (fun x : Ev => decide (tm < x.entry)) l < 0 then (l.length : Int) else idxB (fun x : Ev => decide (tm < x.entry)) l) = (cutE l tm : Int) ∧ cutE l tm ≤ l.length := by
 unfold idxB cutE
 have h := List.findIdx_le_length (xs := l) (p := fun e => decide (tm < e.entry))
 refine ⟨?_, h⟩
 split
 ·rw [if_neg (by omega)]
 ·rw [if_pos (by omega)]; omega
def jT (l : List Ev) : Prop := ∀ e ∈ l, z6 e
theorem Kn {l : List Ev} {i : Nat} {x : Ev} (h : jT l) (hx : z6 x) : jT (l.set i x) := fun e he => by
 rcases List.mem_or_eq_of_mem_set he with h1 | h1
 ·exact h e h1
 ·rw [h1]; exact hx
theorem KQ {s : SS} {e : Ev} (h : jT s.lat) (he : z6 e) : jT (s.add e).lat := by
 have hn : z6 Ev.nil := ⟨by decide, by decide, by decide⟩
 have app : ∀ {l : List Ev} {x : Ev}, jT l → z6 x → jT (l ++ [x]) := fun {l x} hl hx y hy => by
  rcases List.mem_append.1 hy with g | g
  ·exact hl y g
  ·rw [List.mem_singleton.1 g]; exact hx
 unfold SS.add
 split
 ·exact h
 ·split
  ·refine app ?_ hn
   unfold SS.cor
   split
   ·refine Kn h ?_
    unfold SS.fixed
    split
    ·exact hn
    ·have := kC h (e.target.toNat - 1)
     exact ⟨this.1, this.2.1, he.2.2⟩
   ·exact h
  ·exact app h he
theorem kR : ∀ {l : List Ev} {s t : SS}, jT s.lat → jT l → s.play l = some t → jT t.lat
 | [], s, t, h, _, hp => by cases hp; exact h
 | e :: l, s, t, h, hl, hp => by
  simp only [SS.play] at hp
  split at hp
  ·exact kR (KQ h (hl e (by simp))) (fun x hx => hl x (by simp [hx])) hp
  ·cases hp
def wQ (lat : List Ev) (i : Nat) : KV := [(2, .fn 35 [] []), (6, .ptr 2 0), (11, .ptr 7 0), (46, .osl 6 9 0 lat.length), (47, .int .i64 (lat.length : Int)), (48, .int .i64 i), (71, .undef), (72, .undef), (73, .undef), (74, .undef)]
def js (lat : List Ev) (f : List Fx) (c : List Ch) : Heap := [.dead, .dead, .box [.nils, .nils], .dead, .dead, .dead, .arr lat.length 9 (evG lat), .box [fxS f, chS c]]
def knVC : Ctr := ctrP false (fun p : List Ev × Int => [.agg [evS p.1], .int .i64 p.2, .fn 35 [] []]) (fun p => evP p.1) (fun p r => r = zt p.1 p.2 none) (fun _ (r : EnvL × Int) => (.tup [envA r.1.1 r.1.2, .int .i64 r.2], []))
noncomputable def GKnV : Nat → Option Ctr := fun f => if f = 15 then some (QT) else if f = 57 then some (ixEC) else if f = 29 then some (repC) else if f = 35 then some (kv1C) else if f = 59 then some (zap) else if f = 60 then some (zaf) else none
theorem VM : ∀ g c, GKnV g = some c → zd Try.prog g c := okIf KY (okIf zav (okIf WB (okIf zb7 (okIf UP (okIf Um (zw))))))
theorem Y4 {O : Nat → Prop} {w0 : World} {Q : AV × Heap → Prop} {Hs : Nat → KV → Heap → Prop} (lat : List Ev) (hs : jT lat) (hl : lat.length ≤ 1000)
  (hq : Q (.tup [envA (qJ none lat ([], [])).1.1 (qJ none lat ([], [])).1.2, .int .i64 (qJ none lat ([], [])).2], [])) :
  zc Try.prog Try.f34 O 0 w0 [] Hs (RetR knVC 0 Q) (.code (.loop (lps K34 0).1) :: (lps K34 0).2) (mk Try.f34.ntmps (wQ lat 0) (js lat [] [])) := by
 refine zc.loop (ι := {p : Nat × EnvL // p.1 ≤ lat.length ∧ envP p.2 ∧ qJ none (lat.drop p.1) p.2 = qJ none lat ([], [])}) (fun p => wQ lat p.1.1) (fun p => js lat p.1.2.1 p.1.2.2) (fun p => lat.length - p.1.1) ⟨(0, ([], [])), Nat.zero_le _, Qq (by decide) (by decide) (by simp) (by simp), rfl⟩ 0 ?_ ?_ (by kernel_rfl)
 ·exact ⟨by simp [wQ], by simp [js, fxS, chS, za], by kernel_rfl, by simp [js]⟩
 ·rintro ⟨⟨i, f, c⟩, hil, hep, hfo⟩
  simp only at hil hep hfo
  refine zc.run hmix VM [2, 6, 11, 46, 47, 48, 71, 72, 73, 74] 400 (T := .ite (decide ((↑i : Int) < lat.length)) (.side ((0 : Int) ≤ i ∧ (↑i : Int) < lat.length) (.ex (fun (x : Ev) => decide (Ev.kind (List.getD lat (0 + Int.toNat (↑i : Int)) Ev.nil) = (0 : Int)) = false → eqL [AV.agg [AV.int .u8 (Ev.kind (List.getD lat (0 + Int.toNat (↑i : Int)) Ev.nil)), AV.int .i64 (Ev.id (List.getD lat (0 + Int.toNat (↑i : Int)) Ev.nil)), AV.int .i64 (Ev.entry (List.getD lat (0 + Int.toNat (↑i : Int)) Ev.nil)), AV.int .i64 (Ev.target (List.getD lat (0 + Int.toNat (↑i : Int)) Ev.nil)), AV.int .i64 (Ev.date (List.getD lat (0 + Int.toNat (↑i : Int)) Ev.nil)), AV.str (Ev.zb (List.getD lat (0 + Int.toNat (↑i : Int)) Ev.nil)), AV.str (Ev.name (List.getD lat (0 + Int.toNat (↑i : Int)) Ev.nil)), AV.str (Ev.value (List.getD lat (0 + Int.toNat (↑i : Int)) Ev.nil)), AV.bool (Ev.first (List.getD lat (0 + Int.toNat (↑i : Int)) Ev.nil))]] [AV.agg [AV.int .u8 x.kind, AV.int .i64 x.id, AV.int .i64 x.entry, AV.int .i64 x.target, AV.int .i64 x.date, AV.str x.zb, AV.str x.name, AV.str x.value, AV.bool x.first]] ∧ True) fun n => .all (fun (x : Bool) => decide (Ev.kind (List.getD lat (0 + Int.toNat (↑i : Int)) Ev.nil) = (0 : Int)) = false → x = true) fun n => .ite (bif decide (Ev.kind (List.getD lat (0 + Int.toNat (↑i : Int)) Ev.nil) = (0 : Int)) then true else !n) (.ite false (.leaf (.ret [.agg [.nils, .nils], .int .i64 0] [.dead, .dead, .box [.nils, .nils], .dead, .dead, .dead, .arr lat.length 9 (evG lat), .box [.sl f.length 3 (fxG f), .sl c.length 4 (chG c)], .box [.int .u8 (Ev.kind (List.getD lat (0 + Int.toNat (↑i : Int)) Ev.nil)), .int .i64 (Ev.id (List.getD lat (0 + Int.toNat (↑i : Int)) Ev.nil)), .int .i64 (Ev.entry (List.getD lat (0 + Int.toNat (↑i : Int)) Ev.nil)), .int .i64 (Ev.target (List.getD lat (0 + Int.toNat (↑i : Int)) Ev.nil)), .int .i64 (Ev.date (List.getD lat (0 + Int.toNat (↑i : Int)) Ev.nil)), .str (Ev.zb (List.getD lat (0 + Int.toNat (↑i : Int)) Ev.nil)), .str (Ev.name (List.getD lat (0 + Int.toNat (↑i : Int)) Ev.nil)), .str (Ev.value (List.getD lat (0 + Int.toNat (↑i : Int)) Ev.nil)), .bool (Ev.first (List.getD lat (0 + Int.toNat (↑i : Int)) Ev.nil))]])) (.side (inR .i64 ((↑i : Int) + (1 : Int))) (.leaf (.back 0 [(2, .fn 35 [] []), (6, .ptr 2 0), (11, .ptr 7 0), (46, .osl 6 9 0 lat.length), (47, .int .i64 lat.length), (48, .int .i64 ((↑i : Int) + (1 : Int))), (71, .undef), (72, .undef), (73, .undef), (74, .undef)] [.dead, .dead, .box [.nils, .nils], .dead, .dead, .dead, .arr lat.length 9 (evG lat), .box [.sl f.length 3 (fxG f), .sl c.length 4 (chG c)], .box [.int .u8 (Ev.kind (List.getD lat (0 + Int.toNat (↑i : Int)) Ev.nil)), .int .i64 (Ev.id (List.getD lat (0 + Int.toNat (↑i : Int)) Ev.nil)), .int .i64 (Ev.entry (List.getD lat (0 + Int.toNat (↑i : Int)) Ev.nil)), .int .i64 (Ev.target (List.getD lat (0 + Int.toNat (↑i : Int)) Ev.nil)), .int .i64 (Ev.date (List.getD lat (0 + Int.toNat (↑i : Int)) Ev.nil)), .str (Ev.zb (List.getD lat (0 + Int.toNat (↑i : Int)) Ev.nil)), .str (Ev.name (List.getD lat (0 + Int.toNat (↑i : Int)) Ev.nil)), .str (Ev.value (List.getD lat (0 + Int.toNat (↑i : Int)) Ev.nil)), .bool (Ev.first (List.getD lat (0 + Int.toNat (↑i : Int)) Ev.nil))]])))) (.ite (decide (Ev.kind (List.getD lat (0 + Int.toNat (↑i : Int)) Ev.nil) = (1 : Int))) (.ex (fun (x : (List Fx × List Ch) × Fx) => eqL [AV.agg [AV.sl f.length 3 (fxG f), AV.sl c.length 4 (chG c)], AV.agg [AV.str (Ev.name (List.getD lat (0 + Int.toNat (↑i : Int)) Ev.nil)), AV.int .i64 (Ev.date (List.getD lat (0 + Int.toNat (↑i : Int)) Ev.nil)), AV.str (Ev.value (List.getD lat (0 + Int.toNat (↑i : Int)) Ev.nil))]] [AV.agg [AV.sl x.1.1.length 3 (fxG x.1.1), AV.sl x.1.2.length 4 (chG x.1.2)], AV.agg [AV.str x.2.name, AV.int .i64 x.2.date, AV.str x.2.value]] ∧ envP x.1 ∧ qy x.2) fun n => .all (fun (r : (List Fx × List Ch) × Int) => r = putF n.1.1 n.1.2 n.2) fun n => .ite (!decide (n.2 = 0)) (.leaf (.ret [.agg [.nils, .nils], .int .i64 n.2] [.dead, .dead, .box [.nils, .nils], .dead, .dead, .dead, .arr lat.length 9 (evG lat), .box [.sl n.1.1.length 3 (fxG n.1.1), .sl n.1.2.length 4 (chG n.1.2)], .box [.int .u8 (Ev.kind (List.getD lat (0 + Int.toNat (↑i : Int)) Ev.nil)), .int .i64 (Ev.id (List.getD lat (0 + Int.toNat (↑i : Int)) Ev.nil)), .int .i64 (Ev.entry (List.getD lat (0 + Int.toNat (↑i : Int)) Ev.nil)), .int .i64 (Ev.target (List.getD lat (0 + Int.toNat (↑i : Int)) Ev.nil)), .int .i64 (Ev.date (List.getD lat (0 + Int.toNat (↑i : Int)) Ev.nil)), .str (Ev.zb (List.getD lat (0 + Int.toNat (↑i : Int)) Ev.nil)), .str (Ev.name (List.getD lat (0 + Int.toNat (↑i : Int)) Ev.nil)), .str (Ev.value (List.getD lat (0 + Int.toNat (↑i : Int)) Ev.nil)), .bool (Ev.first (List.getD lat (0 + Int.toNat (↑i : Int)) Ev.nil))]])) (.side (inR .i64 ((↑i : Int) + (1 : Int))) (.leaf (.back 0 [(2, .fn 35 [] []), (6, .ptr 2 0), (11, .ptr 7 0), (46, .osl 6 9 0 lat.length), (47, .int .i64 lat.length), (48, .int .i64 ((↑i : Int) + (1 : Int))), (71, .undef), (72, .undef), (73, .undef), (74, .undef)] [.dead, .dead, .box [.nils, .nils], .dead, .dead, .dead, .arr lat.length 9 (evG lat), .box [.sl n.1.1.length 3 (fxG n.1.1), .sl n.1.2.length 4 (chG n.1.2)], .box [.int .u8 (Ev.kind (List.getD lat (0 + Int.toNat (↑i : Int)) Ev.nil)), .int .i64 (Ev.id (List.getD lat (0 + Int.toNat (↑i : Int)) Ev.nil)), .int .i64 (Ev.entry (List.getD lat (0 + Int.toNat (↑i : Int)) Ev.nil)), .int .i64 (Ev.target (List.getD lat (0 + Int.toNat (↑i : Int)) Ev.nil)), .int .i64 (Ev.date (List.getD lat (0 + Int.toNat (↑i : Int)) Ev.nil)), .str (Ev.zb (List.getD lat (0 + Int.toNat (↑i : Int)) Ev.nil)), .str (Ev.name (List.getD lat (0 + Int.toNat (↑i : Int)) Ev.nil)), .str (Ev.value (List.getD lat (0 + Int.toNat (↑i : Int)) Ev.nil)), .bool (Ev.first (List.getD lat (0 + Int.toNat (↑i : Int)) Ev.nil))]])))) (.ex (fun (x : (List Fx × List Ch) × Ch) => eqL [AV.agg [AV.sl f.length 3 (fxG f), AV.sl c.length 4 (chG c)], AV.agg [AV.str (Ev.zb (List.getD lat (0 + Int.toNat (↑i : Int)) Ev.nil)), AV.str (Ev.name (List.getD lat (0 + Int.toNat (↑i : Int)) Ev.nil)), AV.int .i64 (Ev.date (List.getD lat (0 + Int.toNat (↑i : Int)) Ev.nil)), AV.bool (Ev.first (List.getD lat (0 + Int.toNat (↑i : Int)) Ev.nil))]] [AV.agg [AV.sl x.1.1.length 3 (fxG x.1.1), AV.sl x.1.2.length 4 (chG x.1.2)], AV.agg [AV.str x.2.zb, AV.str x.2.name, AV.int .i64 x.2.date, AV.bool x.2.first]] ∧ envP x.1 ∧ q5 x.2) fun n => .all (fun (r : (List Fx × List Ch) × Int) => r = putC n.1.1 n.1.2 n.2) fun n => .ite (!decide (n.2 = 0)) (.leaf (.ret [.agg [.nils, .nils], .int .i64 n.2] [.dead, .dead, .box [.nils, .nils], .dead, .dead, .dead, .arr lat.length 9 (evG lat), .box [.sl n.1.1.length 3 (fxG n.1.1), .sl n.1.2.length 4 (chG n.1.2)], .box [.int .u8 (Ev.kind (List.getD lat (0 + Int.toNat (↑i : Int)) Ev.nil)), .int .i64 (Ev.id (List.getD lat (0 + Int.toNat (↑i : Int)) Ev.nil)), .int .i64 (Ev.entry (List.getD lat (0 + Int.toNat (↑i : Int)) Ev.nil)), .int .i64 (Ev.target (List.getD lat (0 + Int.toNat (↑i : Int)) Ev.nil)), .int .i64 (Ev.date (List.getD lat (0 + Int.toNat (↑i : Int)) Ev.nil)), .str (Ev.zb (List.getD lat (0 + Int.toNat (↑i : Int)) Ev.nil)), .str (Ev.name (List.getD lat (0 + Int.toNat (↑i : Int)) Ev.nil)), .str (Ev.value (List.getD lat (0 + Int.toNat (↑i : Int)) Ev.nil)), .bool (Ev.first (List.getD lat (0 + Int.toNat (↑i : Int)) Ev.nil))]])) (.side (inR .i64 ((↑i : Int) + (1 : Int))) (.leaf (.back 0 [(2, .fn 35 [] []), (6, .ptr 2 0), (11, .ptr 7 0), (46, .osl 6 9 0 lat.length), (47, .int .i64 lat.length), (48, .int .i64 ((↑i : Int) + (1 : Int))), (71, .undef), (72, .undef), (73, .undef), (74, .undef)] [.dead, .dead, .box [.nils, .nils], .dead, .dead, .dead, .arr lat.length 9 (evG lat), .box [.sl n.1.1.length 3 (fxG n.1.1), .sl n.1.2.length 4 (chG n.1.2)], .box [.int .u8 (Ev.kind (List.getD lat (0 + Int.toNat (↑i : Int)) Ev.nil)), .int .i64 (Ev.id (List.getD lat (0 + Int.toNat (↑i : Int)) Ev.nil)), .int .i64 (Ev.entry (List.getD lat (0 + Int.toNat (↑i : Int)) Ev.nil)), .int .i64 (Ev.target (List.getD lat (0 + Int.toNat (↑i : Int)) Ev.nil)), .int .i64 (Ev.date (List.getD lat (0 + Int.toNat (↑i : Int)) Ev.nil)), .str (Ev.zb (List.getD lat (0 + Int.toNat (↑i : Int)) Ev.nil)), .str (Ev.name (List.getD lat (0 + Int.toNat (↑i : Int)) Ev.nil)), .str (Ev.value (List.getD lat (0 + Int.toNat (↑i : Int)) Ev.nil)), .bool (Ev.first (List.getD lat (0 + Int.toNat (↑i : Int)) Ev.nil))]]))))))) (.leaf (.ret [.agg [.sl f.length 3 (fxG f), .sl c.length 4 (chG c)], .int .i64 0] [.dead, .dead, .box [.sl f.length 3 (fxG f), .sl c.length 4 (chG c)], .dead, .dead, .dead, .arr lat.length 9 (evG lat), .box [.sl f.length 3 (fxG f), .sl c.length 4 (chG c)]]))) (by kernel_rfl) ?_
  simp only [Tree.holds, ze, inR, lo, hi, Int.toNat_natCast, Nat.zero_add]
  have cont : ∀ (v' : EnvL) (kv : KV) (h : Heap), envP v' → qJ none (lat.drop (i + 1)) v' = qJ none lat ([], []) → i < lat.length → LeK 0 Try.f34.ntmps kv h (wQ lat (i + 1)) (js lat v'.1 v'.2) →
    ∃ x' : {p : Nat × EnvL // p.1 ≤ lat.length ∧ envP p.2 ∧ qJ none (lat.drop p.1) p.2 = qJ none lat ([], [])}, lat.length - x'.1.1 < lat.length - i ∧ LeK 0 Try.f34.ntmps kv h (wQ lat x'.1.1) (js lat x'.1.2.1 x'.1.2.2) :=
   fun v' kv h g1 g2 hlt g3 => ⟨⟨(i + 1, v'), hlt, g1, g2⟩, by show lat.length - (i + 1) < lat.length - i; omega, g3⟩
  refine ⟨fun hlt => ?_, fun hge => ?_⟩
  ·have hlt : i < lat.length := by have := of_decide_eq_true hlt; omega
   refine ⟨by omega, fun _ => ?_⟩
   rw [Wp hlt] at hfo
   have hsx := kC hs i
   generalize lat.getD i Ev.nil = x at hfo hsx ⊢
   refine ⟨x, fun _ => ⟨by simp [Ev.av], trivial⟩, ⟨true, fun _ => rfl⟩, ?_⟩
   intro b hb
   have hkb : (bif decide (x.kind = 0) then true else !b) = (decide (x.kind = 0) || !xp none x) := by
    cases hd : decide (x.kind = 0) with
    | true => rfl
    | false => rw [hb hd]; rfl
   rw [hkb]
   refine ⟨fun ht => ⟨fun g => (by cases g), fun _ => ⟨by omega, fun _ => ?_⟩⟩, fun ht => ⟨fun hk => ?_, fun hk => ?_⟩⟩
   ·rw [if_pos trivial]
    have hst : qD none (f, c) x = ((f, c), 0) := by unfold qD; rw [if_pos ht]
    rw [hst, if_neg (by simp)] at hfo
    exact cont (f, c) _ _ hep hfo hlt ⟨by simp [wQ], by simp [js, fxS, chS, za], by kernel_rfl, by simp [js]⟩
   ·have hst : qD none (f, c) x = putF f c x.fx := by unfold qD; rw [if_neg (by rw [ht]; decide), if_pos (of_decide_eq_true hk)]
    refine ⟨((f, c), x.fx), ⟨by simp [Ev.fx, za], hep, hsx.2⟩, ⟨_, rfl⟩, ?_⟩
    rintro _ rfl
    dsimp only
    rw [hst] at hfo
    refine ⟨fun h => ?_, fun h => ⟨by omega, fun _ => ?_⟩⟩
    ·have h : (putF f c x.fx).2 ≠ 0 := by simpa using h
     rw [if_pos h] at hfo
     rw [← hfo] at hq
     exact RetR.out0 hq (fun h => by cases h) (by simp [resV, exp2, exp1, exp0, ren0, eqA2, eqL1, envA, fxS, chS, za])
    ·have h : (putF f c x.fx).2 = 0 := by simpa using h
     rw [if_neg (by simpa using h)] at hfo
     rw [if_pos trivial]
     exact cont _ _ _ (Y9 hep (show qy x.fx from hsx.2) h) hfo hlt ⟨by simp [wQ], by simp [js, fxS, chS, za], by kernel_rfl, by simp [js]⟩
   ·have hst : qD none (f, c) x = putC f c x.ch := by unfold qD; rw [if_neg (by rw [ht]; decide), if_neg (of_decide_eq_false hk)]
    refine ⟨((f, c), x.ch), ⟨by simp [Ev.ch, za], hep, ⟨hsx.1, hsx.2.1⟩⟩, ⟨_, rfl⟩, ?_⟩
    rintro _ rfl
    dsimp only
    rw [hst] at hfo
    refine ⟨fun h => ?_, fun h => ⟨by omega, fun _ => ?_⟩⟩
    ·have h : (putC f c x.ch).2 ≠ 0 := by simpa using h
     rw [if_pos h] at hfo
     rw [← hfo] at hq
     exact RetR.out0 hq (fun h => by cases h) (by simp [resV, exp2, exp1, exp0, ren0, eqA2, eqL1, envA, fxS, chS, za])
    ·have h : (putC f c x.ch).2 = 0 := by simpa using h
     rw [if_neg (by simpa using h)] at hfo
     rw [if_pos trivial]
     exact cont _ _ _ (Xw hep (show q5 x.ch from ⟨hsx.1, hsx.2.1⟩) h) hfo hlt ⟨by simp [wQ], by simp [js, fxS, chS, za], by kernel_rfl, by simp [js]⟩
  ·have hge : i = lat.length := by have := of_decide_eq_false hge; omega
   subst hge
   rw [List.drop_length, show qJ none [] (f, c) = ((f, c), 0) from rfl] at hfo
   rw [← hfo] at hq
   exact RetR.out0 hq (fun h => by cases h) (by simp [resV, exp2, exp1, exp0, ren0, eqA2, eqL1, envA, fxS, chS, za])
theorem zbv : zd Try.prog 34 knVC := by
 refine zm (fn := Try.f34) (c := Try.f34.body.getD .skip) rfl rfl rfl fun p hp O w0 Q hq => ?_
 obtain ⟨l, tm⟩ := p
 replace hq := hq _ rfl
 simp only at hq hp
 refine zc.run hmix VM [2, 6, 11, 46, 47, 48, 71, 72, 73, 74] 400 (T := .ex (fun (x : List Ev) => eqL [AV.agg [AV.sl l.length 9 (evG l)]] [AV.agg [AV.sl x.length 9 (evG x)]] ∧ evP x) fun n => .all (fun (r : Int) => r = if Option.isSome (SS.play { evs := [], lat := [] } n) = true then (0 : Int) else (8 : Int)) fun n => .ite (!decide (n = 0)) (.leaf (.ret [.agg [.nils, .nils], .int .i64 8] [.box [.sl l.length 9 (evG l)], .box [.int .i64 tm], .box [.nils, .nils]])) (.ite (bif decide (tm < 0) then true else decide ((1125899906842624 : Int) < tm)) (.leaf (.ret [.agg [.nils, .nils], .int .i64 2] [.box [.sl l.length 9 (evG l)], .box [.int .i64 tm], .box [.nils, .nils]])) (.ex (fun (x : List Ev × Int) => eqL [AV.sl l.length 9 (evG l), AV.fn 58 [] [AV.ptr 0 0]] [AV.sl x.1.length 9 (evG x.1), AV.fn 58 [] [AV.ptr 0 0]] ∧ eqH [.box [AV.int .i64 tm]] [.box [AV.int .i64 x.2]] ∧ 1 = 1 ∧ x.1.length < 1099511627776) fun n => .all (fun (r : Int) => r = idxB (fun (x : Ev) => decide (n.2 < Ev.entry x)) n.1) fun n_1 => .ite (decide (n_1 < 0)) (.side ((0 : Int) ≤ l.length ∧ (↑l.length : Int) ≤ l.length) (.ex (fun (x : List Ev) => eqL [AV.sl (Int.toNat (↑l.length : Int) - 0) 9 (zg (evG l) 0)] [AV.sl x.length 9 (evG x)] ∧ x.length < 1099511627776 ∧ ∀ (e : Ev), e ∈ x → z6 e) fun n_2 => .ite (Option.isSome (SS.play { evs := [], lat := [] } n_2)) (.all (fun (s : SS) => SS.play { evs := [], lat := [] } n_2 = some s) fun n_3 => .leaf (.loop (Prod.fst (lps K34 0)) (Prod.snd (lps K34 0)) [(2, .fn 35 [] []), (6, .ptr 2 0), (11, .ptr 7 0), (46, .osl 6 9 0 (List.length (SS.lat n_3))), (47, .int .i64 (↑(List.length (SS.lat n_3)) : Int)), (48, .int .i64 0), (71, .undef), (72, .undef), (73, .undef), (74, .undef)] [.box [.sl l.length 9 (evG l)], .box [.int .i64 n.2], .box [.nils, .nils], .box [.osl 4 9 0 (List.length (SS.evs n_3)), .omap 5, .osl 6 9 0 (List.length (SS.lat n_3))], .arr (List.length (SS.evs n_3)) 9 (evG (SS.evs n_3)), Blk.map true [Sum.inl .u8, Sum.inr false, Sum.inr false, Sum.inl .i64] (zo (SS.lat n_3)) (zx (SS.lat n_3)), .arr (List.length (SS.lat n_3)) 9 (evG (SS.lat n_3)), .box [.nils, .nils]])) .fail)) (.side ((0 : Int) ≤ n_1 ∧ n_1 ≤ (↑l.length : Int)) (.ex (fun (x : List Ev) => eqL [AV.sl (Int.toNat n_1 - 0) 9 (zg (evG l) 0)] [AV.sl x.length 9 (evG x)] ∧ x.length < 1099511627776 ∧ ∀ (e : Ev), e ∈ x → z6 e) fun n_2 => .ite (Option.isSome (SS.play { evs := [], lat := [] } n_2)) (.all (fun (s : SS) => SS.play { evs := [], lat := [] } n_2 = some s) fun n_3 => .leaf (.loop (Prod.fst (lps K34 0)) (Prod.snd (lps K34 0)) [(2, .fn 35 [] []), (6, .ptr 2 0), (11, .ptr 7 0), (46, .osl 6 9 0 (List.length (SS.lat n_3))), (47, .int .i64 (↑(List.length (SS.lat n_3)) : Int)), (48, .int .i64 0), (71, .undef), (72, .undef), (73, .undef), (74, .undef)] [.box [.sl l.length 9 (evG l)], .box [.int .i64 n.2], .box [.nils, .nils], .box [.osl 4 9 0 (List.length (SS.evs n_3)), .omap 5, .osl 6 9 0 (List.length (SS.lat n_3))], .arr (List.length (SS.evs n_3)) 9 (evG (SS.evs n_3)), Blk.map true [Sum.inl .u8, Sum.inr false, Sum.inr false, Sum.inl .i64] (zo (SS.lat n_3)) (zx (SS.lat n_3)), .arr (List.length (SS.lat n_3)) 9 (evG (SS.lat n_3)), .box [.nils, .nils]])) .fail))))) (by kernel_rfl) ?_
 simp only [Tree.holds, ze, bifO]
 have bad : ∀ (z : Int) (h : Heap), zt l tm none = (([], []), z) → RetR knVC 0 Q [.agg [.nils, .nils], .int .i64 z] h := by
  intro z h hr
  rw [hr] at hq
  exact RetR.out0 hq (fun h => by cases h) (by simp [resV, exp2, exp1, exp0, ren0, eqA2, eqL1, envA, fxS, chS, za])
 refine ⟨l, ⟨by simp [evS, za], hp⟩, ⟨_, rfl⟩, ?_⟩
 rintro _ rfl
 refine ⟨fun h => bad _ _ ?_, fun h => ⟨fun h2 => bad _ _ ?_, fun h2 => ?_⟩⟩
 ·unfold zt
  rw [if_pos]
  cases hs : (SS.play ⟨[], []⟩ l).isSome with
  | false => rfl
  | true => rw [hs] at h; simp at h
 ·have hv : (SS.play ⟨[], []⟩ l).isSome = true := by
   cases hs : (SS.play ⟨[], []⟩ l).isSome with
   | true => rfl
   | false => rw [hs] at h; simp at h
  unfold zt
  rw [if_neg (by rw [hv]; decide), if_pos (by simpa using h2)]
 have hv : (SS.play ⟨[], []⟩ l).isSome = true := by
  cases hs : (SS.play ⟨[], []⟩ l).isSome with
  | true => rfl
  | false => rw [hs] at h; simp at h
 obtain ⟨hc1, hc2⟩ := UE (l := l) (tm := tm)
 have hlp : ∀ e ∈ l.take (cutE l tm), z6 e := fun e he => hp.2 e (List.mem_of_mem_take he)
 have hpl := hp.1
 have hpt := Qh hv (cutE l tm)
 have fin : ∀ s, SS.play ⟨[], []⟩ (l.take (cutE l tm)) = some s → jT s.lat ∧ s.lat.length ≤ 1000 ∧ zt l tm none = qJ none s.lat ([], []) := by
  intro s hs
  obtain ⟨a1, a2, a3⟩ := Vz hs
  refine ⟨kR (s := ⟨[], []⟩) (fun e he => by simp at he) hlp hs, by rw [a1.len]; exact a3, ?_⟩
  unfold zt
  rw [if_neg (by rw [hv]; decide), if_neg (by simpa using h2), hs]
 refine ⟨(l, tm), ⟨by simp [evS, za], by simp, trivial, hpl⟩, ⟨_, rfl⟩, ?_⟩
 rintro _ rfl
 dsimp only
 have done : ∀ s, SS.play ⟨[], []⟩ (l.take (cutE l tm)) = some s → zc Try.prog Try.f34 O 0 w0 [] (fun _ _ _ => False) (RetR knVC 0 Q) (.code (.loop (lps K34 0).1) :: (lps K34 0).2) (mk Try.f34.ntmps (wQ s.lat 0) (js s.lat [] [])) := by
  intro s hs
  obtain ⟨b1, b2, b3⟩ := fin s hs
  rw [b3] at hq
  exact Y4 s.lat b1 b2 hq
 refine ⟨fun hn => ⟨by omega, fun _ => ?_⟩, fun hn => ?_⟩
 ·have hn := of_decide_eq_true hn
  rw [if_pos hn] at hc1
  have e1 : cutE l tm = l.length := by omega
  refine ⟨l.take (cutE l tm), ⟨⟨⟨by rw [e1]; simp, rfl, by have := JB hc2; simpa [e1] using this⟩, trivial⟩, by rw [List.length_take]; omega, hlp⟩, fun _ => ⟨Option.isSome_iff_exists.1 hpt, fun s hs => ?_⟩, fun g => by rw [hpt] at g; cases g⟩
  refine zc.weak (S := wQ s.lat 0) (H := js s.lat [] []) ⟨by simp [wQ], by simp [js, fxS, chS, za], by kernel_rfl, by simp [js]⟩ (done s hs)
 ·have hn := of_decide_eq_false hn
  rw [if_neg hn] at hc1
  refine ⟨by omega, fun _ => ?_⟩
  have e1 : (idxB (fun x : Ev => decide (tm < x.entry)) l).toNat = cutE l tm := by omega
  refine ⟨l.take (cutE l tm), ⟨⟨⟨by rw [e1, List.length_take]; omega, rfl, by have := JB hc2; rw [e1]; simpa using this⟩, trivial⟩, by rw [List.length_take]; omega, hlp⟩, fun _ => ⟨Option.isSome_iff_exists.1 hpt, fun s hs => ?_⟩, fun g => by rw [hpt] at g; cases g⟩
  refine zc.weak (S := wQ s.lat 0) (H := js s.lat [] []) ⟨by simp [wQ], by simp [js, fxS, chS, za], by kernel_rfl, by simp [js]⟩ (done s hs)
end Go.Proofs.Try
end

/- The store: View, Past, Trail; the example. -/
section
set_option maxRecDepth 100000
open Go Go.Sx Go.Proofs Go.Nov
namespace Go.Proofs.Try
attribute [local simp] eqKV eqA eqA0 eqH eqB eqL eqL0
theorem retE {ctr : Ctr} {Q : AV × Heap → Prop} {h : Heap} {f : List Fx} {c : List Ch} {z : Int} (hf : ctr.fresh = false) (hq : Q (.tup [envA f c, .int .i64 z], [])) : RetR ctr 0 Q [.agg [.sl f.length 3 (fxG f), .sl c.length 4 (chG c)], .int .i64 z] h :=
 RetR.out0 hq (fun g => by rw [hf] at g; cases g) (by simp [resV, exp2, exp1, exp0, ren0, eqA2, eqL1, envA, fxS, chS, za])
def V4 : Ctr := ctrP false (fun p : List Ev × Int => [.agg [evS p.1], .int .i64 p.2]) (fun p => evP p.1) (fun p r => r = zt p.1 p.2 none) (fun _ (r : EnvL × Int) => (.tup [envA r.1.1 r.1.2, .int .i64 r.2], []))
noncomputable def GVw : Nat → Option Ctr := fun f => if f = 34 then some (knVC) else none
theorem zbm : ∀ g c, GVw g = some c → zd Try.prog g c := okIf zbv (zw)
theorem Qn : zd Try.prog 18 V4 := by
 refine zm (fn := Try.f18) (c := Try.f18.body.getD .skip) rfl rfl rfl fun p hp O w0 Q hq => ?_
 obtain ⟨l, tm⟩ := p
 replace hq := hq _ rfl
 refine zc.run hmix zbm [] 400 (T := .ex (fun (x : List Ev × Int) => eqL [AV.agg [AV.sl l.length 9 (evG l)], AV.int .i64 tm, AV.fn 35 [] []] [AV.agg [AV.sl x.1.length 9 (evG x.1)], AV.int .i64 x.2, AV.fn 35 [] []] ∧ evP x.1) fun n => .all (fun (r : EnvL × Int) => r = zt n.1 n.2 none) fun n => .leaf (.ret [.agg [.sl n.1.1.length 3 (fxG n.1.1), .sl n.1.2.length 4 (chG n.1.2)], .int .i64 n.2] [.box [.sl l.length 9 (evG l)], .box [.sl n.1.1.length 3 (fxG n.1.1), .sl n.1.2.length 4 (chG n.1.2)]])) (by kernel_rfl) ?_
 simp only [Tree.holds, ze]
 refine ⟨(l, tm), ⟨by simp [evS, za], hp⟩, ⟨_, rfl⟩, ?_⟩
 rintro _ rfl
 exact retE rfl hq
def Yl : Ctr := ctrP true (fun p : List Ev × Ev => [.agg [evS p.1], p.2.av]) (fun p => evP p.1 ∧ z6 p.2) (fun p r => r = appS p.1 p.2) (fun _ (r : List Ev × Int) => (.tup [.agg [evS r.1], .int .i64 r.2], []))
theorem VC : zd Try.prog 12 Yl := zd.frozen U5 (fun p r _ _ => by
  simp only [new2, List.mem_cons, List.not_mem_nil, or_false, forall_eq_or_imp, forall_eq, new1, new0]
  refine ⟨fun _ => ?_, rfl⟩
  simp only [exp0, zp, frz1, jg, List.getElem?_cons_zero, if_true, Jd]
  exact fun j o hj ho => Vq _ _ _ ho) (fun p r _ _ => zK (by simp [exp2, exp1, exp0, zp, frz1, jg, ren0, eqA2, eqL1, evS, kA]))
end Go.Proofs.Try
end

/- The chapter's example. -/
section
namespace Go.Nov
def acme : List UInt8 := [65, 67, 77, 69]
def exL : List Ev := [⟨1, 1, 50, 0, 46340, [], acme, [49, 48], false⟩, ⟨3, 2, 60, 1, 0, [], [], [49, 49], false⟩, ⟨5, 3, 70, 1, 0, [], [], [], false⟩, ⟨1, 4, 70, 0, 46340, [], acme, [49, 50], false⟩]
theorem U9 (i : Nat) (h : i < 4) : appS (exL.take i) (exL.getD i Ev.nil) = (exL.take (i + 1), 0) := by
 rcases (show i = 0 ∨ i = 1 ∨ i = 2 ∨ i = 3 by omega) with rfl | rfl | rfl | rfl <;> decide +kernel
theorem xO : ∀ e ∈ exL, z6 e := by
 intro e he
 simp only [exL, List.mem_cons, List.not_mem_nil, or_false] at he
 rcases he with rfl | rfl | rfl | rfl <;> exact ⟨by decide, by decide, by decide⟩
theorem Xf : zt exL 49 none = (([], []), 0) ∧ zt exL 50 none = (([⟨acme, 46340, [49, 48]⟩], []), 0) ∧ zt exL 60 none = (([⟨acme, 46340, [49, 49]⟩], []), 0) ∧ zt exL 69 none = (([⟨acme, 46340, [49, 49]⟩], []), 0) ∧ zt exL 70 none = (([⟨acme, 46340, [49, 50]⟩], []), 0) ∧ zt exL 1125899906842624 none = (([⟨acme, 46340, [49, 50]⟩], []), 0) :=
 ⟨by kernel_rfl, by kernel_rfl, by kernel_rfl, by kernel_rfl, by kernel_rfl, by kernel_rfl⟩
end Go.Nov
end

/- The reference's store: what it accepts. -/
section
set_option maxRecDepth 100000
open Go Go.Sx Go.Proofs Go.Nov
namespace Go.Proofs.Try
attribute [local simp] eqKV eqA eqA0 eqH eqB eqL eqL0
theorem zbl (x y : Bool) : (bif x then true else y) = (x || y) := by cases x <;> rfl
end Go.Proofs.Try
end

/- The reference's Append; sizes; the same logs. -/
section
set_option maxRecDepth 100000
open Go Go.Sx Go.Proofs Go.Nov
namespace Go.Proofs.Try
attribute [local simp] eqKV eqA eqA0 eqH eqB eqL eqL0
noncomputable def K10 : List Go.Sx.Item := [.code (Try.f10.body.getD .skip)]
def XV (e : Ev) : Prop := e.zb.length < 2 ^ 49 ∧ e.name.length < 2 ^ 49 ∧ e.value.length < 2 ^ 49
def VX (l : List Ev) : Prop := l.length < 2 ^ 60 ∧ ∀ j, j < l.length → XV (l.getD j Ev.nil)
def fitL (l : List Ev) : Prop := l.length ≤ 60 ∧ ∀ e ∈ l, z6 e
def za4 : Ctr := ctrP true (fun e : Ev => [e.av]) XV (fun e r => r = false → z6 e) (fun _ (r : Bool) => (.bool r, []))
theorem UN : zd Try.prog 11 za4 := by
 refine zm (fn := Try.f11) (c := Try.f11.body.getD .skip) rfl rfl rfl fun e hp O w0 Q hq => ?_
 refine zc.run hmix z5 [] 400 (T := .leaf (.ret [.bool (bif bif decide ((3000 : Int) < e.zb.length) then true else decide ((3000 : Int) < e.name.length) then true else decide ((3000 : Int) < e.value.length))] [.box [.int .u8 e.kind, .int .i64 e.id, .int .i64 e.entry, .int .i64 e.target, .int .i64 e.date, .str e.zb, .str e.name, .str e.value, .bool e.first]])) (by kernel_rfl) ?_
 simp only [Tree.holds, ze, zbl]
 refine RetR.scal (hq _ fun h => ?_) rfl rfl
 simp only [Bool.or_eq_false_iff, decide_eq_false_iff_not] at h
 exact ⟨by omega, by omega, by omega⟩
def VQ : Ctr := ctrP true (fun l : List Ev => [.agg [evS l]]) VX (fun l r => r = false → fitL l) (fun _ (r : Bool) => (.bool r, []))
def SGl (i : Nat) : KV := [(1, .ptr 0 0), (3, .int .i64 i)]
noncomputable def GGl : Nat → Option Ctr := fun f => if f = 11 then some (za4) else none
theorem YE : ∀ g c, GGl g = some c → zd Try.prog g c := okIf UN (zw)
theorem Xa : zd Try.prog 10 VQ := by
 refine zm (fn := Try.f10) (c := Try.f10.body.getD .skip) rfl rfl rfl fun l hp O w0 Q hq => ?_
 refine zc.run hmix YE [1, 3] 400 (T := .ite (decide ((60 : Int) < l.length)) (.leaf (.ret [.bool true] [.box [.sl l.length 9 (evG l)]])) (.leaf (.loop (Prod.fst (lps K10 0)) (Prod.snd (lps K10 0)) [(1, .ptr 0 0), (3, .int .i64 0)] [.box [.sl l.length 9 (evG l)]]))) (by kernel_rfl) ?_
 simp only [Tree.holds, ze]
 refine ⟨fun h => RetR.scal (hq true fun g => (by cases g)) rfl rfl, fun h => ?_⟩
 have h60 : l.length ≤ 60 := by have := of_decide_eq_false h; omega
 refine zc.loop (ι := {i : Nat // i ≤ l.length ∧ ∀ j, j < i → z6 (l.getD j Ev.nil)}) (fun i => SGl i.1) (fun _ => [.box [evS l]]) (fun i => l.length - i.1) ⟨0, Nat.zero_le _, fun j hj => by omega⟩ 0 ?_ ?_ (by kernel_rfl)
 ·exact ⟨by simp [SGl], by simp [evS, za], by kernel_rfl, Nat.zero_le _⟩
 ·rintro ⟨i, hil, hbe⟩
  refine zc.run hmix YE [1, 3] 400 (T := .ite (decide ((↑i : Int) < l.length)) (.side ((0 : Int) ≤ i ∧ (↑i : Int) < l.length) (.ex (fun (x : Ev) => eqL [AV.agg [AV.int .u8 (Ev.kind (List.getD l (Int.toNat (↑i : Int)) Ev.nil)), AV.int .i64 (Ev.id (List.getD l (Int.toNat (↑i : Int)) Ev.nil)), AV.int .i64 (Ev.entry (List.getD l (Int.toNat (↑i : Int)) Ev.nil)), AV.int .i64 (Ev.target (List.getD l (Int.toNat (↑i : Int)) Ev.nil)), AV.int .i64 (Ev.date (List.getD l (Int.toNat (↑i : Int)) Ev.nil)), AV.str (Ev.zb (List.getD l (Int.toNat (↑i : Int)) Ev.nil)), AV.str (Ev.name (List.getD l (Int.toNat (↑i : Int)) Ev.nil)), AV.str (Ev.value (List.getD l (Int.toNat (↑i : Int)) Ev.nil)), AV.bool (Ev.first (List.getD l (Int.toNat (↑i : Int)) Ev.nil))]] [AV.agg [AV.int .u8 x.kind, AV.int .i64 x.id, AV.int .i64 x.entry, AV.int .i64 x.target, AV.int .i64 x.date, AV.str x.zb, AV.str x.name, AV.str x.value, AV.bool x.first]] ∧ XV x) fun n => .all (fun (r : Bool) => r = false → z6 n) fun n => .ite n (.leaf (.ret [.bool true] [.box [.sl l.length 9 (evG l)]])) (.side (inR .i64 ((↑i : Int) + (1 : Int))) (.leaf (.back 0 [(1, .ptr 0 0), (3, .int .i64 ((↑i : Int) + (1 : Int)))] [.box [.sl l.length 9 (evG l)]]))))) (.leaf (.ret [.bool false] [.box [.sl l.length 9 (evG l)]]))) (by kernel_rfl) ?_
  simp only [Tree.holds, ze, Int.toNat_natCast, inR, lo, hi]
  refine ⟨fun h => ?_, fun h => ?_⟩
  ·have hlt : i < l.length := by have := of_decide_eq_true h; omega
   refine ⟨by omega, fun _ => ⟨l.getD i Ev.nil, ⟨by simp [Ev.av], hp.2 i hlt⟩, ⟨true, fun g => (by cases g)⟩, ?_⟩⟩
   intro b hb
   refine ⟨fun g => RetR.scal (hq true fun g => (by cases g)) rfl rfl, fun g => ⟨by omega, fun _ => ?_⟩⟩
   rw [if_pos trivial]
   refine ⟨⟨i + 1, hlt, fun j hj => ?_⟩, by show l.length - (i + 1) < l.length - i; omega, ⟨by simp [SGl], by simp [evS, za], by kernel_rfl, Nat.zero_le _⟩⟩
   by_cases e : j = i
   ·rw [e]; exact hb g
   ·exact hbe j (by omega)
  ·have hge : i = l.length := by have := of_decide_eq_false h; omega
   refine RetR.scal (hq false fun _ => ⟨h60, fun e he => ?_⟩) rfl rfl
   obtain ⟨j, hj, rfl⟩ := List.mem_iff_getElem.1 he
   have := hbe j (by omega)
   rwa [zE hj] at this
end Go.Proofs.Try
end

/- The store's example. -/
section
set_option maxRecDepth 100000
open Go Go.Sx Go.Proofs Go.Nov
namespace Go.Proofs.Try
attribute [local simp] eqKV eqA eqA0 eqH eqB eqL eqL0
noncomputable def K26 : List Go.Sx.Item := [.code (Try.f26.body.getD .skip)]
def exaC : Ctr := ctrP false (fun _ : Unit => []) (fun _ => True) (fun _ (_ : Unit) => True) (fun _ _ => (.tup [.agg [evS exL], .bool true], []))
def SXa (i : Nat) : KV := [(0, .ptr 0 0), (2, .ptr 1 0), (11, .osl 4 9 0 4), (12, .int .i64 4), (13, .int .i64 i)]
def HXa (i : Nat) : Heap := [.box [.nils], .box [evS (exL.take i)], .dead, .dead, .arr 4 9 (evG exL)]
noncomputable def fixI : Ctr := inlC Try.prog noG 100 Try.f27
theorem zbj : zd Try.prog 27 fixI := Qo hmix z5 rfl rfl
noncomputable def GXa : Nat → Option Ctr := fun f => if f = 12 then some (Yl) else if f = 27 then some (fixI) else none
theorem Yv : ∀ g c, GXa g = some c → zd Try.prog g c := okIf VC (okIf zbj (zw))
theorem zbq : zd Try.prog 26 exaC := by
 refine zm (fn := Try.f26) (c := Try.f26.body.getD .skip) rfl rfl rfl fun p hp O w0 Q hq => ?_
 replace hq := hq () trivial
 refine zc.run hmix Yv [0, 2, 11, 12, 13] 400 (T := .leaf (.loop (Prod.fst (lps K26 0)) (Prod.snd (lps K26 0)) [(0, .ptr 0 0), (2, .ptr 1 0), (11, .osl 4 9 0 4), (12, .int .i64 4), (13, .int .i64 0)] [.box [.nils], .box [.nils], .box [.int .u8 1, .int .i64 1, .int .i64 50, .int .i64 0, .int .i64 46340, .str (Array.toList #[]), .str (Array.toList #[(65 : UInt8), (67 : UInt8), (77 : UInt8), (69 : UInt8)]), .str (Array.toList #[(49 : UInt8), (48 : UInt8)]), .bool false], .box [.int .u8 1, .int .i64 4, .int .i64 70, .int .i64 0, .int .i64 46340, .str (Array.toList #[]), .str (Array.toList #[(65 : UInt8), (67 : UInt8), (77 : UInt8), (69 : UInt8)]), .str (Array.toList #[(49 : UInt8), (50 : UInt8)]), .bool false], .arr 4 9 (zf 9 [.int .u8 1, .int .i64 1, .int .i64 50, .int .i64 0, .int .i64 46340, .str (Array.toList #[]), .str (Array.toList #[(65 : UInt8), (67 : UInt8), (77 : UInt8), (69 : UInt8)]), .str (Array.toList #[(49 : UInt8), (48 : UInt8)]), .bool false, .int .u8 3, .int .i64 2, .int .i64 60, .int .i64 1, .int .i64 0, .str (Array.toList #[]), .str (Array.toList #[]), .str (Array.toList #[(49 : UInt8), (49 : UInt8)]), .bool false, .int .u8 5, .int .i64 3, .int .i64 70, .int .i64 1, .int .i64 0, .str (Array.toList #[]), .str (Array.toList #[]), .str (Array.toList #[]), .bool false, .int .u8 1, .int .i64 4, .int .i64 70, .int .i64 0, .int .i64 46340, .str (Array.toList #[]), .str (Array.toList #[(65 : UInt8), (67 : UInt8), (77 : UInt8), (69 : UInt8)]), .str (Array.toList #[(49 : UInt8), (50 : UInt8)]), .bool false])])) (by kernel_rfl) ?_
 simp only [Tree.holds, ze]
 refine zc.loop (ι := {i : Nat // i ≤ 4}) (fun i => SXa i.1) (fun i => HXa i.1) (fun i => 4 - i.1) ⟨0, by decide⟩ 0 ?_ ?_ (by kernel_rfl)
 ·refine ⟨by simp [SXa], ⟨by simp, by simp [evS, exL], trivial, trivial, ⟨rfl, rfl, fun j o hj ho => ?_⟩, trivial⟩, by kernel_rfl, Nat.zero_le _⟩
  rcases (show j = 0 ∨ j = 1 ∨ j = 2 ∨ j = 3 by omega) with rfl | rfl | rfl | rfl <;> rcases (show o = 0 ∨ o = 1 ∨ o = 2 ∨ o = 3 ∨ o = 4 ∨ o = 5 ∨ o = 6 ∨ o = 7 ∨ o = 8 by omega) with rfl | rfl | rfl | rfl | rfl | rfl | rfl | rfl | rfl <;> rfl
 ·rintro ⟨i, hi4⟩
  refine zc.run hmix Yv [0, 2, 11, 12, 13] 400 (T := .ite (decide ((↑i : Int) < 4)) (.side ((0 : Int) ≤ i ∧ (↑i : Int) < 4) (.ex (fun (x : List Ev × Ev) => eqL [AV.agg [AV.sl (List.length (List.take i exL)) 9 (evG (List.take i exL))], AV.agg [AV.int .u8 (Ev.kind (List.getD exL (0 + Int.toNat (↑i : Int)) Ev.nil)), AV.int .i64 (Ev.id (List.getD exL (0 + Int.toNat (↑i : Int)) Ev.nil)), AV.int .i64 (Ev.entry (List.getD exL (0 + Int.toNat (↑i : Int)) Ev.nil)), AV.int .i64 (Ev.target (List.getD exL (0 + Int.toNat (↑i : Int)) Ev.nil)), AV.int .i64 (Ev.date (List.getD exL (0 + Int.toNat (↑i : Int)) Ev.nil)), AV.str (Ev.zb (List.getD exL (0 + Int.toNat (↑i : Int)) Ev.nil)), AV.str (Ev.name (List.getD exL (0 + Int.toNat (↑i : Int)) Ev.nil)), AV.str (Ev.value (List.getD exL (0 + Int.toNat (↑i : Int)) Ev.nil)), AV.bool (Ev.first (List.getD exL (0 + Int.toNat (↑i : Int)) Ev.nil))]] [AV.agg [AV.sl x.1.length 9 (evG x.1)], AV.agg [AV.int .u8 x.2.kind, AV.int .i64 x.2.id, AV.int .i64 x.2.entry, AV.int .i64 x.2.target, AV.int .i64 x.2.date, AV.str x.2.zb, AV.str x.2.name, AV.str x.2.value, AV.bool x.2.first]] ∧ evP x.1 ∧ z6 x.2) fun n => .all (fun (r : List Ev × Int) => r = appS n.1 n.2) fun n => .ite (!decide (n.2 = 0)) (.leaf (.ret [.agg [.sl (List.length (List.take i exL)) 9 (evG (List.take i exL))], .bool false] [.box [.sl (List.length (List.take i exL)) 9 (evG (List.take i exL))], .box [.sl (List.length (List.take i exL)) 9 (evG (List.take i exL))], .dead, .dead, .arr 4 9 (evG exL), .box [.int .u8 (Ev.kind (List.getD exL (0 + Int.toNat (↑i : Int)) Ev.nil)), .int .i64 (Ev.id (List.getD exL (0 + Int.toNat (↑i : Int)) Ev.nil)), .int .i64 (Ev.entry (List.getD exL (0 + Int.toNat (↑i : Int)) Ev.nil)), .int .i64 (Ev.target (List.getD exL (0 + Int.toNat (↑i : Int)) Ev.nil)), .int .i64 (Ev.date (List.getD exL (0 + Int.toNat (↑i : Int)) Ev.nil)), .str (Ev.zb (List.getD exL (0 + Int.toNat (↑i : Int)) Ev.nil)), .str (Ev.name (List.getD exL (0 + Int.toNat (↑i : Int)) Ev.nil)), .str (Ev.value (List.getD exL (0 + Int.toNat (↑i : Int)) Ev.nil)), .bool (Ev.first (List.getD exL (0 + Int.toNat (↑i : Int)) Ev.nil))], .box [.sl n.1.length 9 (evG n.1)]])) (.side (inR .i64 ((↑i : Int) + (1 : Int))) (.leaf (.back 0 [(0, .ptr 0 0), (2, .ptr 1 0), (11, .osl 4 9 0 4), (12, .int .i64 4), (13, .int .i64 ((↑i : Int) + (1 : Int)))] [.box [.nils], .box [.sl n.1.length 9 (evG n.1)], .dead, .dead, .arr 4 9 (evG exL), .box [.int .u8 (Ev.kind (List.getD exL (0 + Int.toNat (↑i : Int)) Ev.nil)), .int .i64 (Ev.id (List.getD exL (0 + Int.toNat (↑i : Int)) Ev.nil)), .int .i64 (Ev.entry (List.getD exL (0 + Int.toNat (↑i : Int)) Ev.nil)), .int .i64 (Ev.target (List.getD exL (0 + Int.toNat (↑i : Int)) Ev.nil)), .int .i64 (Ev.date (List.getD exL (0 + Int.toNat (↑i : Int)) Ev.nil)), .str (Ev.zb (List.getD exL (0 + Int.toNat (↑i : Int)) Ev.nil)), .str (Ev.name (List.getD exL (0 + Int.toNat (↑i : Int)) Ev.nil)), .str (Ev.value (List.getD exL (0 + Int.toNat (↑i : Int)) Ev.nil)), .bool (Ev.first (List.getD exL (0 + Int.toNat (↑i : Int)) Ev.nil))], .box [.sl n.1.length 9 (evG n.1)]]))))) (.leaf (.ret [.agg [.sl (List.length (List.take i exL)) 9 (evG (List.take i exL))], .bool true] [.box [.sl (List.length (List.take i exL)) 9 (evG (List.take i exL))], .box [.sl (List.length (List.take i exL)) 9 (evG (List.take i exL))], .dead, .dead, .arr 4 9 (evG exL)]))) (by kernel_rfl) ?_
  simp only [Tree.holds, ze, inR, lo, hi, Int.toNat_natCast, Nat.zero_add]
  refine ⟨fun h => ?_, fun h => ?_⟩
  ·have hlt : i < 4 := by have := of_decide_eq_true h; omega
   refine ⟨by omega, fun _ => ⟨(exL.take i, exL.getD i Ev.nil), ⟨by simp [Ev.av, evS, za], ⟨by rw [List.length_take]; have : exL.length = 4 := rfl; omega, fun e he => xO e (List.mem_of_mem_take he)⟩, kC xO i⟩, ⟨_, rfl⟩, ?_⟩⟩
   intro r hr
   replace hr : r = (exL.take (i + 1), 0) := hr.trans (U9 i hlt)
   subst hr
   refine ⟨fun g => (by cases g), fun _ => ⟨by omega, fun _ => ?_⟩⟩
   rw [if_pos trivial]
   exact ⟨⟨i + 1, hlt⟩, by show 4 - (i + 1) < 4 - i; omega, by simp [SXa], by simp [HXa, evS, za], by kernel_rfl, Nat.zero_le _⟩
  ·have hge : i = 4 := by have := of_decide_eq_false h; omega
   subst hge
   exact RetR.out0 hq (fun h => by cases h) (by simp [resV, exp2, exp1, exp0, ren0, eqA2, eqL1, evS, exL, za])
def za2 : Ctr := ctrP true (fun p : List Ev × Int × List UInt8 => [.agg [evS p.1], .int .i64 p.2.1, .str p.2.2]) (fun p => evP p.1) (fun p r => zt p.1 p.2.1 none = (([⟨acme, 46340, p.2.2⟩], []), 0) → r = true) (fun _ (r : Bool) => (.bool r, []))
noncomputable def GSs : Nat → Option Ctr := fun f => if f = 18 then some (V4) else if f = 19 then some (Qk) else none
theorem zbg : ∀ g c, GSs g = some c → zd Try.prog g c := okIf Qn (okIf JO (zw))
theorem UL : zd Try.prog 33 za2 := by
 refine zm (fn := Try.f33) (c := Try.f33.body.getD .skip) rfl rfl rfl fun p hp O w0 Q hq => ?_
 obtain ⟨l, tm, v⟩ := p
 refine zc.run hmix zbg [] 400 (T := .ex (fun (x : List Ev × Int) => eqL [AV.agg [AV.sl l.length 9 (evG l)], AV.int .i64 tm] [AV.agg [AV.sl x.1.length 9 (evG x.1)], AV.int .i64 x.2] ∧ evP x.1) fun n => .all (fun (r : EnvL × Int) => r = zt n.1 n.2 none) fun n => .ite (decide (n.2 = 0) == true) (.ex (fun (x : (List Fx × List Ch) × List Fx × List Ch) => decide (n.2 = 0) = true → eqL [AV.agg [AV.sl n.1.1.length 3 (fxG n.1.1), AV.sl n.1.2.length 4 (chG n.1.2)], AV.agg [AV.sl 1 3 (zg (zf 3 [AV.str (Array.toList #[(65 : UInt8), (67 : UInt8), (77 : UInt8), (69 : UInt8)]), AV.int .i64 46340, AV.str v]) 0), AV.nils]] [AV.agg [AV.sl x.1.1.length 3 (fxG x.1.1), AV.sl x.1.2.length 4 (chG x.1.2)], AV.agg [AV.sl x.2.1.length 3 (fxG x.2.1), AV.sl x.2.2.length 4 (chG x.2.2)]] ∧ x.1.1.length < 1099511627776 ∧ x.1.2.length < 1099511627776) fun n_1 => .all (fun (x : Bool) => decide (n.2 = 0) = true → (x = true ↔ n_1.1 = n_1.2)) fun n_2 => .leaf (.ret [.bool (bif decide (n.2 = 0) then n_2 else false)] [.box [.sl l.length 9 (evG l)], .box [.sl n.1.1.length 3 (fxG n.1.1), .sl n.1.2.length 4 (chG n.1.2)], .arr 1 3 (zf 3 [.str (Array.toList #[(65 : UInt8), (67 : UInt8), (77 : UInt8), (69 : UInt8)]), .int .i64 46340, .str v])])) (.ex (fun (x : (List Fx × List Ch) × List Fx × List Ch) => decide (n.2 = 0) = true → eqL [AV.agg [AV.sl n.1.1.length 3 (fxG n.1.1), AV.sl n.1.2.length 4 (chG n.1.2)], AV.agg [AV.nils, AV.nils]] [AV.agg [AV.sl x.1.1.length 3 (fxG x.1.1), AV.sl x.1.2.length 4 (chG x.1.2)], AV.agg [AV.sl x.2.1.length 3 (fxG x.2.1), AV.sl x.2.2.length 4 (chG x.2.2)]] ∧ x.1.1.length < 1099511627776 ∧ x.1.2.length < 1099511627776) fun n_1 => .all (fun (x : Bool) => decide (n.2 = 0) = true → (x = true ↔ n_1.1 = n_1.2)) fun n_2 => .leaf (.ret [.bool (bif decide (n.2 = 0) then n_2 else false)] [.box [.sl l.length 9 (evG l)], .box [.sl n.1.1.length 3 (fxG n.1.1), .sl n.1.2.length 4 (chG n.1.2)]]))) (by kernel_rfl) ?_
 simp only [Tree.holds, ze]
 simp only [bifA]
 refine ⟨(l, tm), ⟨by simp [evS, za], hp⟩, ⟨_, rfl⟩, ?_⟩
 intro r hr
 replace hr : r = zt l tm none := hr
 have hle := Ki l tm none
 rw [← hr] at hle hq
 refine ⟨fun h => ?_, fun h => ?_⟩
 ·have h : r.2 = 0 := by simpa using h
  refine ⟨(r.1, ([⟨acme, 46340, v⟩], [])), fun _ => ⟨?_, Nat.lt_of_le_of_lt hle.1 (by decide), Nat.lt_of_le_of_lt hle.2 (by decide)⟩, ?_, ?_⟩
  ·refine ⟨by simp [za], ⟨⟨rfl, rfl, ?_⟩, by simp, trivial⟩, trivial⟩
   intro j o hj ho
   obtain rfl : j = 0 := by omega
   rcases (show o = 0 ∨ o = 1 ∨ o = 2 by omega) with rfl | rfl | rfl <;> rfl
  ·by_cases hx : r.1 = ([⟨acme, 46340, v⟩], [])
   ·exact ⟨true, fun _ => ⟨fun _ => hx, fun _ => rfl⟩⟩
   ·exact ⟨false, fun _ => ⟨fun g => (by cases g), fun g => absurd g hx⟩⟩
  ·intro b hb
   refine RetR.scal (hq _ ?_) rfl rfl
   intro g
   rw [g] at hb ⊢
   exact (hb rfl).2 rfl
 ·have h : ¬ r.2 = 0 := by simpa using h
  refine ⟨(r.1, ([], [])), fun g => absurd (of_decide_eq_true g) h, ⟨true, fun g => absurd (of_decide_eq_true g) h⟩, ?_⟩
  intro b hb
  refine RetR.scal (hq _ ?_) rfl rfl
  intro g
  rw [g] at h
  exact absurd rfl h
def VS : Ctr := ctrP true (fun _ : Unit => []) (fun _ => True) (fun _ r => r = true) (fun _ (r : Bool) => (.bool r, []))
noncomputable def GAe : Nat → Option Ctr := fun f => if f = 26 then some (exaC) else if f = 33 then some (za2) else if f = 18 then some (V4) else none
theorem zb8 : ∀ g c, GAe g = some c → zd Try.prog g c := okIf zbq (okIf UL (okIf Qn (zw)))
theorem Kt : zd Try.prog 17 VS := by
 refine zm (fn := Try.f17) (c := Try.f17.body.getD .skip) rfl rfl rfl fun p hp O w0 Q hq => ?_
 replace hq := hq _ rfl
 refine zc.run hmix zb8 [] 400 (T := .ex (fun (x : Unit) => eqL [] [] ∧ True) fun n => .all (fun (x : Unit) => True) fun n => .ex (fun (x : List Ev × Int) => eqL [AV.agg [AV.sl 4 9 (evG exL)], AV.int .i64 49] [AV.agg [AV.sl x.1.length 9 (evG x.1)], AV.int .i64 x.2] ∧ evP x.1) fun n => .all (fun (r : EnvL × Int) => r = zt n.1 n.2 none) fun n => .ex (fun (x : List Ev × Int × List UInt8) => (bif true then decide ((4 : Int) = 4) else false) = true → eqL [AV.agg [AV.sl 4 9 (evG exL)], AV.int .i64 50, AV.str (Array.toList #[(49 : UInt8), (48 : UInt8)])] [AV.agg [AV.sl x.1.length 9 (evG x.1)], AV.int .i64 x.2.1, AV.str x.2.2] ∧ evP x.1) fun n_1 => .all (fun (x : Bool) => (bif true then decide ((4 : Int) = 4) else false) = true → zt n_1.1 n_1.2.1 none = (([{ name := acme, date := (46340 : Int), value := n_1.2.2 }], []), (0 : Int)) → x = true) fun n_2 => .ex (fun (x : List Ev × Int × List UInt8) => (bif bif true then decide ((4 : Int) = 4) else false then n_2 else false) = true → eqL [AV.agg [AV.sl 4 9 (evG exL)], AV.int .i64 60, AV.str (Array.toList #[(49 : UInt8), (49 : UInt8)])] [AV.agg [AV.sl x.1.length 9 (evG x.1)], AV.int .i64 x.2.1, AV.str x.2.2] ∧ evP x.1) fun n_3 => .all (fun (x : Bool) => (bif bif true then decide ((4 : Int) = 4) else false then n_2 else false) = true → zt n_3.1 n_3.2.1 none = (([{ name := acme, date := (46340 : Int), value := n_3.2.2 }], []), (0 : Int)) → x = true) fun n_4 => .ex (fun (x : List Ev × Int × List UInt8) => (bif bif bif true then decide ((4 : Int) = 4) else false then n_2 else false then n_4 else false) = true → eqL [AV.agg [AV.sl 4 9 (evG exL)], AV.int .i64 69, AV.str (Array.toList #[(49 : UInt8), (49 : UInt8)])] [AV.agg [AV.sl x.1.length 9 (evG x.1)], AV.int .i64 x.2.1, AV.str x.2.2] ∧ evP x.1) fun n_5 => .all (fun (x : Bool) => (bif bif bif true then decide ((4 : Int) = 4) else false then n_2 else false then n_4 else false) = true → zt n_5.1 n_5.2.1 none = (([{ name := acme, date := (46340 : Int), value := n_5.2.2 }], []), (0 : Int)) → x = true) fun n_6 => .ex (fun (x : List Ev × Int × List UInt8) => (bif bif bif bif true then decide ((4 : Int) = 4) else false then n_2 else false then n_4 else false then n_6 else false) = true → eqL [AV.agg [AV.sl 4 9 (evG exL)], AV.int .i64 70, AV.str (Array.toList #[(49 : UInt8), (50 : UInt8)])] [AV.agg [AV.sl x.1.length 9 (evG x.1)], AV.int .i64 x.2.1, AV.str x.2.2] ∧ evP x.1) fun n_7 => .all (fun (x : Bool) => (bif bif bif bif true then decide ((4 : Int) = 4) else false then n_2 else false then n_4 else false then n_6 else false) = true → zt n_7.1 n_7.2.1 none = (([{ name := acme, date := (46340 : Int), value := n_7.2.2 }], []), (0 : Int)) → x = true) fun n_8 => .ex (fun (x : List Ev × Int × List UInt8) => (bif bif bif bif bif true then decide ((4 : Int) = 4) else false then n_2 else false then n_4 else false then n_6 else false then n_8 else false) = true → eqL [AV.agg [AV.sl 4 9 (evG exL)], AV.int .i64 1125899906842624, AV.str (Array.toList #[(49 : UInt8), (50 : UInt8)])] [AV.agg [AV.sl x.1.length 9 (evG x.1)], AV.int .i64 x.2.1, AV.str x.2.2] ∧ evP x.1) fun n_9 => .all (fun (x : Bool) => (bif bif bif bif bif true then decide ((4 : Int) = 4) else false then n_2 else false then n_4 else false then n_6 else false then n_8 else false) = true → zt n_9.1 n_9.2.1 none = (([{ name := acme, date := (46340 : Int), value := n_9.2.2 }], []), (0 : Int)) → x = true) fun n_10 => .leaf (.ret [.bool (bif bif bif bif bif bif bif bif true then decide ((4 : Int) = 4) else false then n_2 else false then n_4 else false then n_6 else false then n_8 else false then n_10 else false then decide (n.2 = 0) else false then decide ((↑n.1.1.length : Int) = 0) else false)] [.box [.sl 4 9 (evG exL)], .box [.sl n.1.1.length 3 (fxG n.1.1), .sl n.1.2.length 4 (chG n.1.2)]])) (by kernel_rfl) ?_
 simp only [Tree.holds, ze]
 have hE : evP exL := ⟨by decide, xO⟩
 obtain ⟨v1, v2, v3, v4, v5, v6⟩ := Xf
 simp only [bifA, Bool.true_and, decide_true]
 refine ⟨(), ⟨trivial, trivial⟩, ⟨(), trivial⟩, fun _ _ => ?_⟩
 refine ⟨(exL, 49), ⟨⟨⟨⟨rfl, rfl, za _ _ _⟩, trivial⟩, ⟨rfl, rfl⟩, trivial⟩, hE⟩, ⟨_, rfl⟩, ?_⟩
 intro r hr
 replace hr : r = (([], []), 0) := hr.trans v1
 subst hr
 refine ⟨(exL, 50, [49, 48]), fun _ => ⟨⟨⟨⟨rfl, rfl, za _ _ _⟩, trivial⟩, ⟨rfl, rfl⟩, rfl, trivial⟩, hE⟩, ⟨true, fun _ _ => rfl⟩, ?_⟩
 intro b0 hb0
 replace hb0 : b0 = true := hb0 trivial v2
 subst hb0
 refine ⟨(exL, 60, [49, 49]), fun _ => ⟨⟨⟨⟨rfl, rfl, za _ _ _⟩, trivial⟩, ⟨rfl, rfl⟩, rfl, trivial⟩, hE⟩, ⟨true, fun _ _ => rfl⟩, ?_⟩
 intro b1 hb1
 replace hb1 : b1 = true := hb1 rfl v3
 subst hb1
 refine ⟨(exL, 69, [49, 49]), fun _ => ⟨⟨⟨⟨rfl, rfl, za _ _ _⟩, trivial⟩, ⟨rfl, rfl⟩, rfl, trivial⟩, hE⟩, ⟨true, fun _ _ => rfl⟩, ?_⟩
 intro b2 hb2
 replace hb2 : b2 = true := hb2 rfl v4
 subst hb2
 refine ⟨(exL, 70, [49, 50]), fun _ => ⟨⟨⟨⟨rfl, rfl, za _ _ _⟩, trivial⟩, ⟨rfl, rfl⟩, rfl, trivial⟩, hE⟩, ⟨true, fun _ _ => rfl⟩, ?_⟩
 intro b3 hb3
 replace hb3 : b3 = true := hb3 rfl v5
 subst hb3
 refine ⟨(exL, 1125899906842624, [49, 50]), fun _ => ⟨⟨⟨⟨rfl, rfl, za _ _ _⟩, trivial⟩, ⟨rfl, rfl⟩, rfl, trivial⟩, hE⟩, ⟨true, fun _ _ => rfl⟩, ?_⟩
 intro b4 hb4
 replace hb4 : b4 = true := hb4 rfl v6
 subst hb4
 exact RetR.scal hq rfl rfl
end Go.Proofs.Try
end

/- Trails; older views. -/
section
namespace Go.Nov
end Go.Nov
end

/- What is known: facts placed one by one. -/
section
namespace Go.Nov
def qU {α : Type} (c : α → α → Int) (xs l : List α) : List α := xs.foldl (fun l x => zn c x l) l
def qL (d : Option Int) (L : List Ev) : List Fx := (L.filter fun x => decide (x.kind = 1) && xp d x).map Ev.fx
def qK (d : Option Int) (L : List Ev) : List Ch := (L.filter fun x => decide (x.kind = 2) && xp d x).map Ev.ch
def YP (x : Ev) : Prop := x.kind = 0 ∨ x.kind = 1 ∧ okF x.fx = true ∨ x.kind = 2 ∧ okC x.ch = true
theorem ke {d : Option Int} : ∀ {L : List Ev} {f : List Fx} {c : List Ch}, errE f c = 0 → (∀ x ∈ L, YP x) → f.length + L.length ≤ 1000 → c.length + L.length ≤ 1000 →
  qJ d L (f, c) = ((qU cmpF (qL d L) f, qU cmpC (qK d L) c), 0) ∧ errE (qU cmpF (qL d L) f) (qU cmpC (qK d L) c) = 0
 | [], f, c, h, _, _, _ => ⟨rfl, h⟩
 | x :: L, f, c, h, hg, h1, h2 => by
  simp only [List.length_cons] at h1 h2
  have hgx := hg x (by simp)
  have hgL : ∀ y ∈ L, YP y := fun y hy => hg y (by simp [hy])
  by_cases hk : xp d x = true
  ·rcases hgx with k | ⟨k, ok⟩ | ⟨k, ok⟩
   ·have hs : qD d (f, c) x = ((f, c), 0) := by unfold qD; rw [if_pos (by simp [k])]
    have e1 : qL d (x :: L) = qL d L := by simp [qL, List.filter_cons, k]
    have e2 : qK d (x :: L) = qK d L := by simp [qK, List.filter_cons, k]
    rw [qJ, hs, e1, e2, if_neg (by simp)]
    exact ke h hgL (by omega) (by omega)
   ·have hl := kr (c := cmpF) (x := x.fx) f
    have hs : qD d (f, c) x = ((zn cmpF x.fx f, c), 0) := by
     unfold qD
     rw [if_neg (by simp [k, hk]), if_pos k]
     exact Uu h ok (by simp only; omega)
    have e1 : qL d (x :: L) = x.fx :: qL d L := by simp [qL, List.filter_cons, k, hk]
    have e2 : qK d (x :: L) = qK d L := by simp [qK, List.filter_cons, k]
    rw [qJ, hs, e1, e2, if_neg (by simp)]
    exact ke (W8 h ok (by omega)) hgL (by omega) (by omega)
   ·have hl := kr (c := cmpC) (x := x.ch) c
    have hs : qD d (f, c) x = ((f, zn cmpC x.ch c), 0) := by
     unfold qD
     rw [if_neg (by simp [k, hk]), if_neg (by omega)]
     unfold putC
     simp only
     rw [if_neg (by simpa using h), if_neg (by rw [ok]; decide), if_neg (by omega)]
    have e1 : qL d (x :: L) = qL d L := by simp [qL, List.filter_cons, k]
    have e2 : qK d (x :: L) = x.ch :: qK d L := by simp [qK, List.filter_cons, k, hk]
    rw [qJ, hs, e1, e2, if_neg (by simp)]
    exact ke (JT h ok (by omega)) hgL (by omega) (by omega)
  ·have hk : xp d x = false := by simpa using hk
   have hs : qD d (f, c) x = ((f, c), 0) := by unfold qD; rw [if_pos (by simp [hk])]
   have e1 : qL d (x :: L) = qL d L := by simp [qL, List.filter_cons, hk]
   have e2 : qK d (x :: L) = qK d L := by simp [qK, List.filter_cons, hk]
   rw [qJ, hs, e1, e2, if_neg (by simp)]
   exact ke h hgL (by omega) (by omega)
end Go.Nov
namespace Go.Nov
section
variable {α : Type} {c : α → α → Int} {x : α} (hk : OrdT c)
include hk
theorem Z1 : ∀ {l : List α}, (∀ w ∈ l, c w x < 0) → zn c x l = l ++ [x]
 | [], _ => rfl
 | a :: l, h => by rw [Y1 hk (h a (by simp)), Z1 fun w hw => h w (by simp [hw])]; rfl
theorem kO : ∀ {xs l : List α}, (l ++ xs).Pairwise (fun a b => c a b < 0) → qU c xs l = l ++ xs
 | [], l, _ => by simp [qU]
 | x :: xs, l, h => by
  have h1 := List.pairwise_append.1 h
  show qU c xs (zn c x l) = _
  rw [Z1 hk fun w hw => h1.2.2 w hw x (by simp)]
  rw [kO (by simpa using h)]
  simp
end
theorem Z8 (t : Int) : ∀ {l : List Ev} {a : Ev}, (∀ y ∈ l, y.kind = 3 → errR y.value = 0) → errR a.value = 0 → errR (l.foldl (fixS t) a).value = 0
 | [], a, _, h => h
 | y :: l, a, hl, h => by
  simp only [List.foldl_cons]
  refine Z8 t (fun z hz => hl z (by simp [hz])) ?_
  unfold fixS
  split
  ·rename_i g; exact hl y (by simp) g.2
  ·split <;> exact h
theorem Zj {e : Ev} (hv : e.valid = true) : (e.kind = 1 → okF e.fx = true) ∧ (e.kind = 2 → okC e.ch = true) ∧ (e.kind = 3 → errR e.value = 0) := by
 unfold Ev.valid at hv
 simp only [Bool.and_eq_true] at hv
 have hv := hv.2
 refine ⟨fun g => ?_, fun g => ?_, fun g => ?_⟩
 ·rw [if_pos g] at hv
  simp only [Bool.and_eq_true] at hv
  obtain ⟨⟨⟨⟨⟨h1, h2⟩, h3⟩, _⟩, _⟩, _⟩ := hv
  unfold okF Ev.fx
  simp only
  rw [h1, h2, h3]; rfl
 ·rw [if_neg (by omega), if_pos g] at hv
  simp only [Bool.and_eq_true] at hv
  obtain ⟨⟨⟨⟨h1, h2⟩, h3⟩, _⟩, _⟩ := hv
  unfold okC Ev.ch
  simp only
  rw [h1, h2, h3]; rfl
 ·rw [if_neg (by omega), if_neg (by omega)] at hv
  simp only [Bool.and_eq_true] at hv
  have hv := hv.2
  rw [if_pos g] at hv
  simp only [Bool.and_eq_true] at hv
  exact of_decide_eq_true hv.1
theorem Yn {l : List Ev} {s : SS} (I : Inv l s) : ∀ x ∈ s.lat, YP x := by
 intro x hx
 obtain ⟨i, hi, rfl⟩ := List.mem_iff_getElem.1 hx
 have hil : i < l.length := by have := I.ok.len; rw [I.evs] at this; omega
 have h := I.lat i hil
 rw [zE hi] at h
 rw [h]
 by_cases hk : (latF l i).kind = 0
 ·exact .inl hk
 ·obtain ⟨q1, q2, q3⟩ := yT hk
  have hv := I.val i hil
  have hvf := Zj hv
  have hkey := jA l (l.getD i Ev.nil)
  have hval : (l.getD i Ev.nil).kind = 1 → errR (wW l (l.getD i Ev.nil)).value = 0 := fun g => by
   refine Z8 _ (fun y hy hk3 => ?_) ?_
   ·obtain ⟨j, hj, rfl⟩ := List.mem_iff_getElem.1 hy
    have := I.val j hj
    rw [zE hj] at this
    exact (Zj this).2.2 hk3
   ·have := hvf.1 g
    unfold okF at this
    simp only [Bool.and_eq_true] at this
    exact of_decide_eq_true this.2
  rw [q1]
  generalize wW l (l.getD i Ev.nil) = y at hkey hval ⊢
  generalize l.getD i Ev.nil = x at *
  obtain ⟨k1, k2⟩ := hkey
  simp only [Ev.key, List.cons.injEq, Sum.inl.injEq, Sum.inr.injEq, and_true] at k1
  obtain ⟨_, k3, k4, k5⟩ := k1
  rcases jd.1 q2 with g | g
  ·refine .inr (.inl ⟨by rw [k2, g], ?_⟩)
   have := hvf.1 g
   unfold okF Ev.fx at this ⊢
   simp only [Bool.and_eq_true] at this ⊢
   simp only [k4, k5]
   exact ⟨this.1, decide_eq_true (hval g)⟩
  ·refine .inr (.inr ⟨by rw [k2, g], ?_⟩)
   have := hvf.2.1 g
   unfold okC Ev.ch at this ⊢
   simp only [k3, k4, k5]
   exact this
theorem wK {l : List Ev} {tm : Int} {d : Option Int} {s : SS} (hv : (SS.play ⟨[], []⟩ l).isSome = true) (ht : ¬ (tm < 0 ∨ 1125899906842624 < tm)) (hs : SS.play ⟨[], []⟩ (l.take (cutE l tm)) = some s) :
  zt l tm d = ((qU cmpF (qL d s.lat) [], qU cmpC (qK d s.lat) []), 0) ∧ errE (qU cmpF (qL d s.lat) []) (qU cmpC (qK d s.lat) []) = 0 := by
 have I := (vp (l := l.take (cutE l tm))).2 s hs
 obtain ⟨a1, a2, a3⟩ := Vz hs
 have hlen := a1.len
 have := ke (d := d) (L := s.lat) (f := []) (c := []) (by decide) (Yn I) (by simp; omega) (by simp; omega)
 unfold zt
 rw [if_neg (by rw [hv]; decide), if_neg ht, hs]
 exact this
end Go.Nov
end

/- A part of what is known. -/
section
namespace Go.Nov
theorem vR (l : List Ev) (tm : Int) (d : Option Int) : (∃ s, (SS.play ⟨[], []⟩ l).isSome = true ∧ ¬ (tm < 0 ∨ 1125899906842624 < tm) ∧ SS.play ⟨[], []⟩ (l.take (cutE l tm)) = some s) ∨ (∀ d', zt l tm d' = (([], []), 8)) ∨ ∀ d', zt l tm d' = (([], []), 2) := by
 cases hv : (SS.play ⟨[], []⟩ l).isSome with
 | false => exact .inr (.inl fun d' => by unfold zt; rw [if_pos hv])
 | true =>
  by_cases ht : tm < 0 ∨ 1125899906842624 < tm
  ·exact .inr (.inr fun d' => by unfold zt; rw [if_neg (by rw [hv]; decide), if_pos ht])
  ·obtain ⟨s, hs⟩ := Option.isSome_iff_exists.1 (Qh hv (cutE l tm))
   exact .inl ⟨s, rfl, ht, hs⟩
end Go.Nov
end

/- A log into which what is known is entered at once. -/
section
namespace Go.Nov
def evR (F : List Fx) (C : List Ch) (i : Nat) : Ev :=
 if i < F.length then ⟨1, (i : Int) + 1, 0, 0, (F.getD i Fx.nil).date, [], (F.getD i Fx.nil).name, (F.getD i Fx.nil).value, false⟩
 else ⟨2, (i : Int) + 1, 0, 0, (C.getD (i - F.length) Ch.nil).date, (C.getD (i - F.length) Ch.nil).zb, (C.getD (i - F.length) Ch.nil).name, [], (C.getD (i - F.length) Ch.nil).first⟩
def logR (F : List Fx) (C : List Ch) (n : Nat) : List Ev := (List.range n).map (evR F C)
theorem qO (F : List Fx) (C : List Ch) (n : Nat) : (logR F C n).length = n := by simp [logR]
theorem vX {F : List Fx} {C : List Ch} {n i : Nat} (h : i < n) : (logR F C n).getD i Ev.nil = evR F C i := by
 rw [zE (by rw [qO]; exact h)]; simp [logR]
theorem KN (F : List Fx) (C : List Ch) (n : Nat) : logR F C (n + 1) = logR F C n ++ [evR F C n] := by
 simp [logR, List.range_succ]
theorem Xd {F : List Fx} {C : List Ch} {n i : Nat} (h : i ≤ n) : (logR F C n).take i = logR F C i := by
 unfold logR
 rw [← List.map_take, List.take_range, Nat.min_eq_left h]
theorem wX (F : List Fx) (C : List Ch) (i : Nat) : (evR F C i).fact = true ∧ (evR F C i).target = 0 ∧ (evR F C i).id = (i : Int) + 1 ∧ (evR F C i).entry = 0 := by
 unfold evR; split <;> exact ⟨rfl, rfl, rfl, rfl⟩
structure Fits (F : List Fx) (C : List Ch) : Prop where
 okf : ∀ x ∈ F, okF x = true
 okc : ∀ x ∈ C, okC x = true
 prf : F.Pairwise fun a b => cmpF a b < 0
 prc : C.Pairwise fun a b => cmpC a b < 0
 len : F.length + C.length ≤ 100
theorem Uj {F : List Fx} {C : List Ch} (h : errE F C = 0) (hl : F.length + C.length ≤ 100) : Fits F C := by
 obtain ⟨_, h1, h2, h3, h4⟩ := xa.1 h
 exact ⟨fun x hx => List.all_eq_true.1 h1 x hx, fun x hx => List.all_eq_true.1 h2 x hx, v7 ur h3, v7 Zi h4, hl⟩
theorem Xc {F : List Fx} {C : List Ch} (h : Fits F C) {i : Nat} (hi : i < F.length + C.length) : (evR F C i).valid = true := by
 have hl := h.len
 unfold evR
 split
 ·rename_i g
  have ok := h.okf (F.getD i Fx.nil) (by rw [zE g]; exact List.getElem_mem g)
  unfold okF at ok
  simp only [Bool.and_eq_true] at ok
  unfold Ev.valid
  simp only [inB, if_true]
  simp only [ok.1.1, ok.1.2, ok.2]
  simp
  omega
 ·rename_i g
  have g2 : i - F.length < C.length := by omega
  have ok := h.okc (C.getD (i - F.length) Ch.nil) (by rw [zE g2]; exact List.getElem_mem g2)
  unfold okC at ok
  simp only [Bool.and_eq_true] at ok
  unfold Ev.valid
  rw [if_neg (show ¬ (2 : Int) = 1 by decide), if_pos (show (2 : Int) = 2 from rfl)]
  simp only [inB, ok.1.1, ok.1.2, ok.2]
  simp
  omega
theorem VZ {α : Type} {c : α → α → Int} {l : List α} {z : α} (h : l.Pairwise fun a b => c a b < 0) {i j : Nat} (hij : i < j) (hj : j < l.length) : c (l.getD i z) (l.getD j z) < 0 := by
 rw [zE (by omega), zE hj]
 exact List.pairwise_iff_getElem.1 h i j (by omega) hj hij
theorem YD {F : List Fx} {C : List Ch} (h : Fits F C) {i j : Nat} (hij : i < j) (hj : j < F.length + C.length) : yA (evR F C i) (evR F C j) = false := by
 unfold evR
 by_cases g1 : i < F.length <;> by_cases g2 : j < F.length
 ·rw [if_pos g1, if_pos g2]
  have := VZ (z := Fx.nil) h.prf hij g2
  cases hs : yA _ _ with
  | false => rfl
  | true =>
   simp only [yA, Bool.and_eq_true, decide_eq_true_eq] at hs
   rw [vj.2 ⟨hs.1.2, hs.2⟩] at this
   omega
 ·rw [if_pos g1, if_neg g2]; rfl
 ·omega
 ·rw [if_neg g1, if_neg g2]
  have := VZ (z := Ch.nil) h.prc (i := i - F.length) (j := j - F.length) (by omega) (by omega)
  cases hs : yA _ _ with
  | false => rfl
  | true =>
   simp only [yA, Bool.and_eq_true, decide_eq_true_eq] at hs
   rw [vE.2 ⟨hs.1.1.2, hs.1.2, hs.2⟩] at this
   omega
theorem Je {F : List Fx} {C : List Ch} (h : Fits F C) {i : Nat} (hi : i < F.length + C.length) : accR (logR F C i) (evR F C i) = 0 := by
 have hl := h.len
 obtain ⟨e1, e2, e3, e4⟩ := wX F C i
 unfold accR
 rw [if_neg, if_neg, if_neg, if_neg, if_neg]
 ·intro g
  unfold Ql at g
  obtain ⟨j, hj, g⟩ := List.any_eq_true.1 g
  have hj := List.mem_range.1 hj
  rw [qO] at hj
  rw [vX hj, YD h hj hi] at g
  cases g
 ·rw [e1]; decide
 ·rw [qO]; omega
 ·rintro ⟨g1, g2⟩
  rw [qO] at g1 g2
  rw [vX (by omega), e4, (wX F C (i - 1)).2.2.2] at g2
  omega
 ·rintro (g | g)
  ·rw [Xc h hi] at g; cases g
  ·exact g (by rw [e3, qO])
theorem uR {F : List Fx} {C : List Ch} (h : Fits F C) {n : Nat} (hn : n ≤ F.length + C.length) : kq (logR F C n) = true := by
 unfold kq
 rw [List.all_eq_true]
 intro i hi
 have hi := List.mem_range.1 hi
 rw [qO] at hi
 rw [Xd (by omega), vX hi]
 exact decide_eq_true (Je h (by omega))
theorem YG {F : List Fx} {C : List Ch} (h : Fits F C) {i : Nat} (hi : i < F.length + C.length) : appS (logR F C i) (evR F C i) = (logR F C (i + 1), 0) := by
 rw [zb2]
 unfold appR
 rw [if_neg (by rw [uR h (by omega)]; decide), if_neg (by rw [Je h hi]; decide), KN]
theorem XC {F : List Fx} {C : List Ch} {n : Nat} {s : SS} (I : Inv (logR F C n) s) : s.lat = logR F C n := by
 have hlen := I.ok.len
 rw [I.evs, qO] at hlen
 refine zb3 (by rw [hlen, qO]) fun i hi => ?_
 rw [hlen] at hi
 rw [I.lat i (by rw [qO]; exact hi), vX hi]
 obtain ⟨e1, e2, e3, e4⟩ := wX F C i
 have mem : ∀ y ∈ logR F C n, y.fact = true ∧ y.target = 0 := fun y hy => by
  obtain ⟨j, _, rfl⟩ := List.mem_map.1 hy
  exact ⟨(wX F C j).1, (wX F C j).2.1⟩
 have hc : jW (logR F C n) ((i : Int) + 1) = false := by
  unfold jW
  rw [List.any_eq_false]
  intro y hy
  have := (mem y hy).2
  simp only [Bool.and_eq_true, decide_eq_true_eq, not_and]
  intro _; omega
 unfold latF
 rw [vX hi, e1, hc]
 simp only [Bool.not_false, Bool.and_true, if_true]
 unfold wW
 exact xd fun y hy => by rw [(mem y hy).2, e3]; omega
theorem Yi (F : List Fx) (C : List Ch) : qL none (logR F C (F.length + C.length)) = F ∧ qK none (logR F C (F.length + C.length)) = C := by
 have e : logR F C (F.length + C.length) = (List.range F.length).map (evR F C) ++ (List.range C.length).map fun j => evR F C (F.length + j) := by
  unfold logR
  rw [List.range_add, List.map_append, List.map_map]
  rfl
 have h1 : ∀ x ∈ (List.range F.length).map (evR F C), x.kind = 1 := fun x hx => by
  obtain ⟨j, hj, rfl⟩ := List.mem_map.1 hx
  unfold evR; rw [if_pos (List.mem_range.1 hj)]
 have h2 : ∀ x ∈ (List.range C.length).map (fun j => evR F C (F.length + j)), x.kind = 2 := fun x hx => by
  obtain ⟨j, hj, rfl⟩ := List.mem_map.1 hx
  unfold evR; rw [if_neg (by omega)]
 unfold qL qK
 rw [e]
 simp only [List.filter_append, List.map_append, xp, Bool.and_true]
 rw [List.filter_eq_self.2 fun x hx => decide_eq_true (h1 x hx), List.filter_eq_nil_iff.2 (fun x hx => by simp [h2 x hx]), List.filter_eq_nil_iff.2 (fun x hx => by simp [h1 x hx]), List.filter_eq_self.2 fun x hx => decide_eq_true (h2 x hx)]
 simp only [List.map_nil, List.append_nil, List.nil_append, List.map_map]
 constructor
 ·apply List.ext_getElem (by simp)
  intro i a b
  simp only [List.getElem_map, List.getElem_range, Function.comp_apply]
  unfold evR Ev.fx
  rw [if_pos b, zE b]
 ·apply List.ext_getElem (by simp)
  intro i a b
  simp only [List.getElem_map, List.getElem_range, Function.comp_apply]
  unfold evR Ev.ch
  rw [if_neg (by omega), show F.length + i - F.length = i by omega, zE b]
theorem Wc {F : List Fx} {C : List Ch} (h : Fits F C) : zt (logR F C (F.length + C.length)) 0 none = ((F, C), 0) := by
 have hv : (SS.play ⟨[], []⟩ (logR F C (F.length + C.length))).isSome = true := by rw [(vp).1]; exact uR h (Nat.le_refl _)
 have hc : (logR F C (F.length + C.length)).take (cutE (logR F C (F.length + C.length)) 0) = logR F C (F.length + C.length) := by
  have : cutE (logR F C (F.length + C.length)) 0 = (logR F C (F.length + C.length)).length := by
   unfold cutE
   refine List.findIdx_eq_length.2 fun x hx => ?_
   obtain ⟨j, _, rfl⟩ := List.mem_map.1 hx
   rw [(wX F C j).2.2.2]; rfl
  rw [this, List.take_length]
 obtain ⟨s, hs⟩ := Option.isSome_iff_exists.1 hv
 have I := (vp).2 s hs
 have hk := (wK (tm := 0) (d := none) (s := s) hv (by omega) (by rw [hc]; exact hs)).1
 obtain ⟨f1, f2⟩ := Yi F C
 rw [hk, XC I, f1, f2, kO WE (l := []) (by simpa using h.prf), kO WA (l := []) (by simpa using h.prc)]
 rfl
theorem WD {α : Type} {c : α → α → Int} : ∀ {xs l : List α}, (qU c xs l).length ≤ l.length + xs.length
 | [], l => by simp [qU]
 | x :: xs, l => by
  have h1 := WD (c := c) (xs := xs) (l := zn c x l)
  have h2 := kr (c := c) (x := x) l
  show (qU c xs (zn c x l)).length ≤ _
  simp only [List.length_cons]; omega
theorem QY (d : Option Int) : ∀ L : List Ev, (qL d L).length + (qK d L).length ≤ L.length
 | [] => by simp [qL, qK]
 | x :: L => by
  have := QY d L
  unfold qL qK at this ⊢
  simp only [List.length_map, List.filter_cons, List.length_cons] at this ⊢
  by_cases h1 : x.kind = 1
  ·by_cases hk : xp d x = true
   ·simp [h1, hk]; omega
   ·simp [h1, hk]; omega
  ·by_cases h2 : x.kind = 2
   ·by_cases hk : xp d x = true
    ·simp [h2, hk]; omega
    ·simp [h2, hk]; omega
   ·simp [h1, h2]; omega
theorem WZ {l : List Ev} {tm : Int} (hl : l.length ≤ 60) (h : (zt l tm none).2 = 0) : Fits (zt l tm none).1.1 (zt l tm none).1.2 := by
 rcases vR l tm none with ⟨s, h1, h2, h3⟩ | hk | hk
 ·obtain ⟨k1, k2⟩ := wK (d := none) h1 h2 h3
  rw [k1]
  refine Uj k2 ?_
  obtain ⟨a1, a2, a3⟩ := Vz h3
  have hlen := a1.len
  rw [a2] at hlen
  have b0 := QY none s.lat
  have b1 := WD (c := cmpF) (xs := qL none s.lat) (l := [])
  have b2 := WD (c := cmpC) (xs := qK none s.lat) (l := [])
  have b3 := List.length_take_le (cutE l tm) l
  have b4 := List.length_take_le' (cutE l tm) l
  simp only [List.length_nil] at b1 b2
  simp only
  omega
 ·rw [hk] at h; cases h
 ·rw [hk] at h; cases h
theorem Kw {l : List Ev} {tm : Int} (h : (zt l tm none).2 ≠ 0) : (zt l tm none).1 = ([], []) := by
 rcases vR l tm none with ⟨s, h1, h2, h3⟩ | hk | hk
 ·rw [(wK (d := none) h1 h2 h3).1] at h; exact absurd rfl h
 ·rw [hk]
 ·rw [hk]
end Go.Nov
namespace Go.Nov
theorem QK {α : Type} {c : α → α → Int} {w : α} : ∀ {xs l : List α}, w ∈ qU c xs l → w ∈ l ∨ w ∈ xs
 | [], l, h => .inl h
 | x :: xs, l, h => by
  rcases QK (xs := xs) (l := zn c x l) h with g | g
  ·rcases j1 g with rfl | g
   ·exact .inr (by simp)
   ·exact .inl g
  ·exact .inr (by simp [g])
theorem K7 {l : List Ev} {tm : Int} (h : (zt l tm none).2 = 0) : ∃ s, SS.play ⟨[], []⟩ (l.take (cutE l tm)) = some s ∧ (∀ x ∈ (zt l tm none).1.1, ∃ e ∈ s.lat, x = e.fx) ∧ ∀ x ∈ (zt l tm none).1.2, ∃ e ∈ s.lat, x = e.ch := by
 rcases vR l tm none with ⟨s, h1, h2, h3⟩ | hk | hk
 ·obtain ⟨k1, k2⟩ := wK (d := none) h1 h2 h3
  rw [k1]
  refine ⟨s, h3, fun x hx => ?_, fun x hx => ?_⟩
  ·rcases QK hx with g | g
   ·simp at g
   ·obtain ⟨e, he, rfl⟩ := List.mem_map.1 g
    exact ⟨e, (List.mem_filter.1 he).1, rfl⟩
  ·rcases QK hx with g | g
   ·simp at g
   ·obtain ⟨e, he, rfl⟩ := List.mem_map.1 g
    exact ⟨e, (List.mem_filter.1 he).1, rfl⟩
 ·rw [hk] at h; cases h
 ·rw [hk] at h; cases h
end Go.Nov
end

/- The law of StoreRebuilt holds of the code. -/
section
set_option maxRecDepth 100000
open Go Go.Sx Go.Proofs Go.Nov
namespace Go.Proofs.Try
attribute [local simp] eqKV eqA eqA0 eqH eqB eqL eqL0
noncomputable def K4 : List Go.Sx.Item := [.code (Try.f4.body.getD .skip)]
def V2 : Ctr := ctrP true (fun p : List Ev × Int => [.agg [evS p.1], .int .i64 p.2]) (fun p => VX p.1 ∧ inR .i64 p.2) (fun _ r => r = true) (fun _ (r : Bool) => (.bool r, []))
noncomputable def GRb : Nat → Option Ctr := fun f => if f = 10 then some (VQ) else if f = 17 then some (VS) else if f = 18 then some (V4) else if f = 12 then some (Yl) else if f = 19 then some (Qk) else none
theorem Xn : ∀ g c, GRb g = some c → zd Try.prog g c := okIf Xa (okIf Kt (okIf Qn (okIf VC (okIf JO (zw)))))
theorem Jn {l : List Ev} {tm : Int} (hP : evP l) (h : (zt l tm none).2 = 0) : (∀ x ∈ (zt l tm none).1.1, qy x) ∧ ∀ x ∈ (zt l tm none).1.2, q5 x := by
 obtain ⟨s, h1, h2, h3⟩ := K7 h
 have hs : jT s.lat := kR (s := ⟨[], []⟩) (fun e he => by simp at he) (fun e he => hP.2 e (List.mem_of_mem_take he)) h1
 refine ⟨fun x hx => ?_, fun x hx => ?_⟩
 ·obtain ⟨e, he, rfl⟩ := h2 x hx
  exact (hs e he).2
 ·obtain ⟨e, he, rfl⟩ := h3 x hx
  exact ⟨(hs e he).1, (hs e he).2.1⟩
theorem Z3 {F : List Fx} {C : List Ch} (hft : Fits F C) (h1 : ∀ x ∈ F, qy x) (h2 : ∀ x ∈ C, q5 x) {i : Nat} (hi : i < F.length + C.length) : z6 (evR F C i) := by
 unfold evR
 split
 ·rename_i g
  have := h1 (F.getD i Fx.nil) (by rw [zE g]; exact List.getElem_mem g)
  exact ⟨by show 0 < _; decide, this.1, this.2⟩
 ·rename_i g
  have g2 : i - F.length < C.length := by omega
  have := h2 (C.getD (i - F.length) Ch.nil) (by rw [zE g2]; exact List.getElem_mem g2)
  exact ⟨this.1, this.2, by show 0 < _; decide⟩
theorem YR {F : List Fx} {C : List Ch} (hft : Fits F C) (h1 : ∀ x ∈ F, qy x) (h2 : ∀ x ∈ C, q5 x) {i : Nat} (hi : i ≤ F.length + C.length) : evP (logR F C i) := by
 have := hft.len
 refine ⟨by rw [qO]; omega, fun e he => ?_⟩
 obtain ⟨j, hj, rfl⟩ := List.mem_map.1 he
 exact Z3 hft h1 h2 (by have := List.mem_range.1 hj; omega)
def SRb (i : Nat) : KV := [(5, .bool true), (6, .ptr 1 0), (8, .ptr 2 0), (9, .int .i64 i), (122, .undef), (123, .undef), (126, .undef), (127, .undef), (128, .undef)]
def HRb (F : List Fx) (C : List Ch) (i : Nat) : Heap := [.dead, .box [fxS F, chS C], .box [evS (logR F C i)]]
theorem Ws {O : Nat → Prop} {w0 : World} {Q : AV × Heap → Prop} (F : List Fx) (C : List Ch) (hft : Fits F C) (sm1 : ∀ x ∈ F, qy x) (sm2 : ∀ x ∈ C, q5 x) (fin : ∀ (b : Bool) (h : Heap), b = true → RetR V2 0 Q [.bool b] h) :
  zc Try.prog Try.f4 O 0 w0 [] (fun _ _ _ => False) (RetR V2 0 Q) (.code (.loop (lps K4 0).1) :: (lps K4 0).2) (mk Try.f4.ntmps (SRb 0) (HRb F C 0)) := by
 have hlen := hft.len
 refine zc.loop (ι := {i : Nat // i ≤ F.length + C.length}) (fun i => SRb i.1) (fun i => HRb F C i.1) (fun i => F.length + C.length - i.1) ⟨0, Nat.zero_le _⟩ 0 ?_ ?_ (by kernel_rfl)
 ·exact ⟨by simp [SRb], by simp [HRb, evS, fxS, chS, za], by kernel_rfl, Nat.zero_le _⟩
 ·rintro ⟨i, hil⟩
  refine zc.run hmix Xn [5, 6, 8, 9, 122, 123, 126, 127, 128] 400 (T := .side (inR .i64 ((↑(List.length F) : Int) + (↑(List.length C) : Int))) (.ite (decide ((↑i : Int) < (↑(List.length F) : Int) + (↑(List.length C) : Int))) (.side (inR .i64 ((↑i : Int) + (1 : Int))) (.ite (decide ((↑i : Int) < (↑(List.length F) : Int))) (.side ((0 : Int) ≤ i ∧ (↑i : Int) < (↑(List.length F) : Int)) (.side ((0 : Int) ≤ i ∧ (↑i : Int) < (↑(List.length F) : Int)) (.side ((0 : Int) ≤ i ∧ (↑i : Int) < (↑(List.length F) : Int)) (.ex (fun (x : List Ev × Ev) => eqL [AV.agg [AV.sl (List.length (logR F C i)) 9 (evG (logR F C i))], AV.agg [AV.int .u8 1, AV.int .i64 ((↑i : Int) + (1 : Int)), AV.int .i64 0, AV.int .i64 0, AV.int .i64 (Fx.date (List.getD F (Int.toNat (↑i : Int)) Fx.nil)), AV.str (Array.toList #[]), AV.str (Fx.name (List.getD F (Int.toNat (↑i : Int)) Fx.nil)), AV.str (Fx.value (List.getD F (Int.toNat (↑i : Int)) Fx.nil)), AV.bool false]] [AV.agg [AV.sl x.1.length 9 (evG x.1)], AV.agg [AV.int .u8 x.2.kind, AV.int .i64 x.2.id, AV.int .i64 x.2.entry, AV.int .i64 x.2.target, AV.int .i64 x.2.date, AV.str x.2.zb, AV.str x.2.name, AV.str x.2.value, AV.bool x.2.first]] ∧ evP x.1 ∧ z6 x.2) fun n => .all (fun (r : List Ev × Int) => r = appS n.1 n.2) fun n => .ite (!decide (n.2 = 0)) (.leaf (.ret [.bool false] [.dead, .box [.sl (List.length F) 3 (fxG F), .sl (List.length C) 4 (chG C)], .box [.sl (List.length (logR F C i)) 9 (evG (logR F C i))], .box [.int .u8 1, .int .i64 ((↑i : Int) + (1 : Int)), .int .i64 0, .int .i64 0, .int .i64 (Fx.date (List.getD F (Int.toNat (↑i : Int)) Fx.nil)), .str (Array.toList #[]), .str (Fx.name (List.getD F (Int.toNat (↑i : Int)) Fx.nil)), .str (Fx.value (List.getD F (Int.toNat (↑i : Int)) Fx.nil)), .bool false], .box [.sl n.1.length 9 (evG n.1)]])) (.side (inR .i64 ((↑i : Int) + (1 : Int))) (.leaf (.back 0 [(5, .bool true), (6, .ptr 1 0), (8, .ptr 2 0), (9, .int .i64 ((↑i : Int) + (1 : Int))), (122, .undef), (123, .undef), (126, .undef), (127, .undef), (128, .undef)] [.dead, .box [.sl (List.length F) 3 (fxG F), .sl (List.length C) 4 (chG C)], .box [.sl n.1.length 9 (evG n.1)], .box [.int .u8 1, .int .i64 ((↑i : Int) + (1 : Int)), .int .i64 0, .int .i64 0, .int .i64 (Fx.date (List.getD F (Int.toNat (↑i : Int)) Fx.nil)), .str (Array.toList #[]), .str (Fx.name (List.getD F (Int.toNat (↑i : Int)) Fx.nil)), .str (Fx.value (List.getD F (Int.toNat (↑i : Int)) Fx.nil)), .bool false], .box [.sl n.1.length 9 (evG n.1)]]))))))) (.side (inR .i64 ((↑i : Int) - (↑(List.length F) : Int))) (.side ((0 : Int) ≤ i - (↑(List.length F) : Int) ∧ (↑i : Int) - (↑(List.length F) : Int) < (↑(List.length C) : Int)) (.ex (fun (x : List Ev × Ev) => eqL [AV.agg [AV.sl (List.length (logR F C i)) 9 (evG (logR F C i))], AV.agg [AV.int .u8 2, AV.int .i64 ((↑i : Int) + (1 : Int)), AV.int .i64 0, AV.int .i64 0, AV.int .i64 (Ch.date (List.getD C (Int.toNat ((↑i : Int) - (↑(List.length F) : Int))) Ch.nil)), AV.str (Ch.zb (List.getD C (Int.toNat ((↑i : Int) - (↑(List.length F) : Int))) Ch.nil)), AV.str (Ch.name (List.getD C (Int.toNat ((↑i : Int) - (↑(List.length F) : Int))) Ch.nil)), AV.str (Array.toList #[]), AV.bool (Ch.first (List.getD C (Int.toNat ((↑i : Int) - (↑(List.length F) : Int))) Ch.nil))]] [AV.agg [AV.sl x.1.length 9 (evG x.1)], AV.agg [AV.int .u8 x.2.kind, AV.int .i64 x.2.id, AV.int .i64 x.2.entry, AV.int .i64 x.2.target, AV.int .i64 x.2.date, AV.str x.2.zb, AV.str x.2.name, AV.str x.2.value, AV.bool x.2.first]] ∧ evP x.1 ∧ z6 x.2) fun n => .all (fun (r : List Ev × Int) => r = appS n.1 n.2) fun n => .ite (!decide (n.2 = 0)) (.leaf (.ret [.bool false] [.dead, .box [.sl (List.length F) 3 (fxG F), .sl (List.length C) 4 (chG C)], .box [.sl (List.length (logR F C i)) 9 (evG (logR F C i))], .box [.int .u8 2, .int .i64 ((↑i : Int) + (1 : Int)), .int .i64 0, .int .i64 0, .int .i64 (Ch.date (List.getD C (Int.toNat ((↑i : Int) - (↑(List.length F) : Int))) Ch.nil)), .str (Ch.zb (List.getD C (Int.toNat ((↑i : Int) - (↑(List.length F) : Int))) Ch.nil)), .str (Ch.name (List.getD C (Int.toNat ((↑i : Int) - (↑(List.length F) : Int))) Ch.nil)), .str (Array.toList #[]), .bool (Ch.first (List.getD C (Int.toNat ((↑i : Int) - (↑(List.length F) : Int))) Ch.nil))], .box [.str (Ch.zb (List.getD C (Int.toNat ((↑i : Int) - (↑(List.length F) : Int))) Ch.nil)), .str (Ch.name (List.getD C (Int.toNat ((↑i : Int) - (↑(List.length F) : Int))) Ch.nil)), .int .i64 (Ch.date (List.getD C (Int.toNat ((↑i : Int) - (↑(List.length F) : Int))) Ch.nil)), .bool (Ch.first (List.getD C (Int.toNat ((↑i : Int) - (↑(List.length F) : Int))) Ch.nil))], .box [.sl n.1.length 9 (evG n.1)]])) (.side (inR .i64 ((↑i : Int) + (1 : Int))) (.leaf (.back 0 [(5, .bool true), (6, .ptr 1 0), (8, .ptr 2 0), (9, .int .i64 ((↑i : Int) + (1 : Int))), (122, .undef), (123, .undef), (126, .undef), (127, .undef), (128, .undef)] [.dead, .box [.sl (List.length F) 3 (fxG F), .sl (List.length C) 4 (chG C)], .box [.sl n.1.length 9 (evG n.1)], .box [.int .u8 2, .int .i64 ((↑i : Int) + (1 : Int)), .int .i64 0, .int .i64 0, .int .i64 (Ch.date (List.getD C (Int.toNat ((↑i : Int) - (↑(List.length F) : Int))) Ch.nil)), .str (Ch.zb (List.getD C (Int.toNat ((↑i : Int) - (↑(List.length F) : Int))) Ch.nil)), .str (Ch.name (List.getD C (Int.toNat ((↑i : Int) - (↑(List.length F) : Int))) Ch.nil)), .str (Array.toList #[]), .bool (Ch.first (List.getD C (Int.toNat ((↑i : Int) - (↑(List.length F) : Int))) Ch.nil))], .box [.str (Ch.zb (List.getD C (Int.toNat ((↑i : Int) - (↑(List.length F) : Int))) Ch.nil)), .str (Ch.name (List.getD C (Int.toNat ((↑i : Int) - (↑(List.length F) : Int))) Ch.nil)), .int .i64 (Ch.date (List.getD C (Int.toNat ((↑i : Int) - (↑(List.length F) : Int))) Ch.nil)), .bool (Ch.first (List.getD C (Int.toNat ((↑i : Int) - (↑(List.length F) : Int))) Ch.nil))], .box [.sl n.1.length 9 (evG n.1)]])))))))) (.ex (fun (x : List Ev × Int) => eqL [AV.agg [AV.sl (List.length (logR F C i)) 9 (evG (logR F C i))], AV.int .i64 0] [AV.agg [AV.sl x.1.length 9 (evG x.1)], AV.int .i64 x.2] ∧ evP x.1) fun n => .all (fun (r : EnvL × Int) => r = zt n.1 n.2 none) fun n => .ex (fun (x : (List Fx × List Ch) × List Fx × List Ch) => (bif true then decide (n.2 = 0) else false) = true → eqL [AV.agg [AV.sl (List.length F) 3 (fxG F), AV.sl (List.length C) 4 (chG C)], AV.agg [AV.sl n.1.1.length 3 (fxG n.1.1), AV.sl n.1.2.length 4 (chG n.1.2)]] [AV.agg [AV.sl x.1.1.length 3 (fxG x.1.1), AV.sl x.1.2.length 4 (chG x.1.2)], AV.agg [AV.sl x.2.1.length 3 (fxG x.2.1), AV.sl x.2.2.length 4 (chG x.2.2)]] ∧ x.1.1.length < 1099511627776 ∧ x.1.2.length < 1099511627776) fun n_1 => .all (fun (x : Bool) => (bif true then decide (n.2 = 0) else false) = true → (x = true ↔ n_1.1 = n_1.2)) fun n_2 => .leaf (.ret [.bool (bif bif true then decide (n.2 = 0) else false then n_2 else false)] [.dead, .box [.sl (List.length F) 3 (fxG F), .sl (List.length C) 4 (chG C)], .box [.sl (List.length (logR F C i)) 9 (evG (logR F C i))], .box [.sl n.1.1.length 3 (fxG n.1.1), .sl n.1.2.length 4 (chG n.1.2)]])))) (by kernel_rfl) ?_
  simp only [Tree.holds, ze, inR, lo, hi, Int.toNat_natCast, Nat.zero_add]
  refine ⟨by omega, fun _ => ⟨fun h => ?_, fun h => ?_⟩⟩
  ·have hlt : i < F.length + C.length := by have := of_decide_eq_true h; omega
   have hap := YG hft hlt
   have hPi := YR hft sm1 sm2 hil
   have hse := Z3 hft sm1 sm2 hlt
   have nxt : ∀ (kv : KV) (h : Heap), LeK 0 Try.f4.ntmps kv h (SRb (i + 1)) (HRb F C (i + 1)) → ∃ x' : {i : Nat // i ≤ F.length + C.length}, F.length + C.length - x'.1 < F.length + C.length - i ∧ LeK 0 Try.f4.ntmps kv h (SRb x'.1) (HRb F C x'.1) :=
    fun kv h g => ⟨⟨i + 1, hlt⟩, by show F.length + C.length - (i + 1) < F.length + C.length - i; omega, g⟩
   refine ⟨by omega, fun _ => ⟨fun h => ?_, fun h => ?_⟩⟩
   ·have hF : i < F.length := by have := of_decide_eq_true h; omega
    have he : evR F C i = ⟨1, (i : Int) + 1, 0, 0, (F.getD i Fx.nil).date, [], (F.getD i Fx.nil).name, (F.getD i Fx.nil).value, false⟩ := if_pos hF
    refine ⟨by omega, fun _ => ⟨by omega, fun _ => ⟨by omega, fun _ => ⟨(logR F C i, evR F C i), ⟨by simp [evS, Ev.av, he, za], hPi, hse⟩, ⟨_, rfl⟩, ?_⟩⟩⟩⟩
    intro r hr
    replace hr : r = (logR F C (i + 1), 0) := hr.trans hap
    subst hr
    refine ⟨fun g => by simp at g, fun _ => ⟨by omega, fun _ => ?_⟩⟩
    rw [if_pos trivial]
    exact nxt _ _ ⟨by simp [SRb], by simp [HRb, evS, fxS, chS, za], by kernel_rfl, Nat.zero_le _⟩
   ·have hF : ¬ i < F.length := by have := of_decide_eq_false h; omega
    have e1 : ((i : Int) - (F.length : Int)).toNat = i - F.length := by omega
    have he : evR F C i = ⟨2, (i : Int) + 1, 0, 0, (C.getD (i - F.length) Ch.nil).date, (C.getD (i - F.length) Ch.nil).zb, (C.getD (i - F.length) Ch.nil).name, [], (C.getD (i - F.length) Ch.nil).first⟩ := if_neg hF
    simp only [e1]
    refine ⟨by omega, fun _ => ⟨by omega, fun _ => ⟨(logR F C i, evR F C i), ⟨by simp [evS, Ev.av, he, za], hPi, hse⟩, ⟨_, rfl⟩, ?_⟩⟩⟩
    intro r hr
    replace hr : r = (logR F C (i + 1), 0) := hr.trans hap
    subst hr
    refine ⟨fun g => by simp at g, fun _ => ⟨by omega, fun _ => ?_⟩⟩
    rw [if_pos trivial]
    exact nxt _ _ ⟨by simp [SRb], by simp [HRb, evS, fxS, chS, za], by kernel_rfl, Nat.zero_le _⟩
  ·have hge : i = F.length + C.length := by have := of_decide_eq_false h; omega
   have hPi := YR hft sm1 sm2 (Nat.le_refl (F.length + C.length))
   rw [hge]
   refine ⟨(logR F C (F.length + C.length), 0), ⟨by simp [evS, za], hPi⟩, ⟨_, rfl⟩, ?_⟩
   intro r hr
   replace hr : r = ((F, C), 0) := hr.trans (Wc hft)
   subst hr
   refine ⟨((F, C), (F, C)), fun _ => ⟨by simp [za], by show F.length < _; omega, by show C.length < _; omega⟩, ⟨true, fun _ => by simp⟩, ?_⟩
   intro b hb
   replace hb : b = true := (hb (by simp)).2 rfl
   subst hb
   exact fin _ _ (by simp)
theorem Y3 : zd Try.prog 4 V2 := by
 refine zm (fn := Try.f4) (c := Try.f4.body.getD .skip) rfl rfl rfl fun p hp O w0 Q hq => ?_
 obtain ⟨l, tm⟩ := p
 replace hq := hq _ rfl
 refine zc.run hmix Xn [5, 6, 8, 9, 122, 123, 126, 127, 128] 400 (T := .ex (fun (x : Unit) => eqL [] [] ∧ True) fun n => .all (fun (r : Bool) => r = true) fun n => .ex (fun (x : List Ev) => eqL [AV.agg [AV.sl l.length 9 (evG l)]] [AV.agg [AV.sl x.length 9 (evG x)]] ∧ VX x) fun n_1 => .all (fun (r : Bool) => r = false → fitL n_1) fun n_2 => .ite (bif n_2 then true else !n) (.leaf (.ret [.bool n] [.box [.sl l.length 9 (evG l)]])) (.ex (fun (x : List Ev × Int) => eqL [AV.agg [AV.sl l.length 9 (evG l)], AV.int .i64 tm] [AV.agg [AV.sl x.1.length 9 (evG x.1)], AV.int .i64 x.2] ∧ evP x.1) fun n_3 => .all (fun (r : EnvL × Int) => r = zt n_3.1 n_3.2 none) fun n_4 => .ite (!decide (n_4.2 = 0)) (.side (n = true → inR .i64 ((↑n_4.1.1.length : Int) + n_4.1.2.length)) (.leaf (.ret [.bool (bif n then decide ((↑n_4.1.1.length : Int) + n_4.1.2.length = 0) else false)] [.box [.sl l.length 9 (evG l)], .box [.sl n_4.1.1.length 3 (fxG n_4.1.1), .sl n_4.1.2.length 4 (chG n_4.1.2)]]))) (.leaf (.loop (Prod.fst (lps K4 0)) (Prod.snd (lps K4 0)) [(5, .bool n), (6, .ptr 1 0), (8, .ptr 2 0), (9, .int .i64 0), (122, .undef), (123, .undef), (126, .undef), (127, .undef), (128, .undef)] [.box [.sl l.length 9 (evG l)], .box [.sl n_4.1.1.length 3 (fxG n_4.1.1), .sl n_4.1.2.length 4 (chG n_4.1.2)], .box [.nils]])))) (by kernel_rfl) ?_
 simp only [Tree.holds, ze]
 obtain ⟨hg, _⟩ := hp
 have fin : ∀ (b : Bool) (h : Heap), b = true → RetR V2 0 Q [.bool b] h := by
  rintro b h rfl
  exact RetR.scal hq rfl rfl
 refine ⟨(), ⟨trivial, trivial⟩, ⟨true, rfl⟩, ?_⟩
 rintro _ rfl
 simp only [bifO, bifA, Bool.true_and, Bool.not_true, Bool.or_false]
 refine ⟨l, ⟨by simp [evS, za], hg⟩, ⟨true, fun g => (by cases g)⟩, ?_⟩
 intro g1 hg1
 refine ⟨fun _ => fin _ _ rfl, fun h => ?_⟩
 obtain rfl : g1 = false := by simpa using h
 have hf := hg1 rfl
 have hl : l.length ≤ 60 := hf.1
 have hP : evP l := ⟨by omega, hf.2⟩
 clear hg1 hg h
 refine ⟨(l, tm), ⟨by simp [evS, za], hP⟩, ⟨_, rfl⟩, ?_⟩
 intro a ha
 replace ha : a = zt l tm none := ha
 refine ⟨fun h => ?_, fun h => ?_⟩
 ·have h : a.2 ≠ 0 := by simpa using h
  rw [ha] at h
  have e1 := Kw h
  rw [← ha] at e1
  rw [e1]
  exact ⟨fun _ => by simp [inR, lo, hi], fun _ => fin _ _ (by simp)⟩
 ·have h : a.2 = 0 := by simpa using h
  rw [ha] at h
  have hft := WZ hl h
  obtain ⟨sm1, sm2⟩ := Jn hP h
  rw [← ha] at hft sm1 sm2
  generalize a.1.1 = F at hft sm1 ⊢
  generalize a.1.2 = C at hft sm2 ⊢
  exact zc.weak (S := SRb 0) (H := HRb F C 0) ⟨by simp [SRb], by simp [HRb, evS, logR, fxS, chS, za], by kernel_rfl, Nat.zero_le _⟩ (Ws F C hft sm1 sm2 fin)
end Go.Proofs.Try
end

/- From a reading of the arguments to their representation; from a contract to a call. -/
section
namespace Go.Sx
variable [Stat]
open Go.RowKit (Below)
def E0 : Nat → Prop := Own (fun _ => False) []
theorem zc3 (b : Nat) : ¬ E0 b := by
 rintro (h | ⟨e, he, _⟩)
 ·exact h
 ·simp at he
def Tw (P : Program) (W : World) (t : TypeId) (cs : List Value) : Prop := ∃ (H : Type) (enc : TypeId × Value → H) (base fuel : Nat) (d : DataW H) (ps : List MemPlace), DataW.trod enc P W base (fun _ => true) true fuel t cs = some (d, ps) ∧ ∀ n ∈ d.weights P t, n ≤ reachBytes
section
variable {P : Program} {W : World} {t e : TypeId} {cs : List Value}
theorem WL (ht : P.underlying t = some .string) (h : Tw P W t cs) : ∃ s : List UInt8, cs = [.string ⟨s.toArray⟩] ∧ s.length ≤ reachBytes := by
 obtain ⟨H, enc, base, fuel, d, ps, h, hw⟩ := h
 obtain ⟨s, rfl, hx, _⟩ := DataW.trod_string ht h
 cases hx
 exact ⟨s.data.toList, by simp, hw _ (by simp [DataW.weights])⟩
theorem ye {k : IntKind} (ht : P.underlying t = some (.int k)) (h : Tw P W t cs) : ∃ n, cs = [.int k n] ∧ (Lit.int k n).wf = true := by
 obtain ⟨H, enc, base, fuel, d, ps, h, hw⟩ := h
 obtain ⟨n, rfl, hx, hwf⟩ := DataW.trod_int ht h
 exact ⟨n, rfl, hwf⟩
theorem UG (ht : P.underlying t = some .bool) (h : Tw P W t cs) : ∃ b, cs = [.bool b] := by
 obtain ⟨H, enc, base, fuel, d, ps, h, hw⟩ := h
 obtain ⟨b, rfl, hx⟩ := DataW.trod_bool ht h
 exact ⟨b, rfl⟩
theorem Qd {fs : Array Field} (ht : P.underlying t = some (.struct fs)) (h : Tw P W t cs) : cs.length = P.cellsOf t ∧ ∀ (i : Nat) (f : Field), fs[i]? = some f → Tw P W f.type ((cs.drop f.offset).take (P.cellsOf f.type)) := by
 obtain ⟨H, enc, base, fuel, d, ps, h, hw⟩ := h
 obtain ⟨xs, n, _, hx, hl, hlen, hf⟩ := DataW.trod_struct ht h
 cases hx
 refine ⟨hl, fun i f hfi => ?_⟩
 have hi := hf i f hfi
 have hlt : i < xs.length := by
  rw [hlen]; exact (Array.getElem?_eq_some_iff.1 hfi).1
 rw [List.getElem?_eq_getElem hlt] at hi
 refine ⟨H, enc, base, n, xs[i].1, xs[i].2, hi, fun m hm => hw m ?_⟩
 simp only [DataW.weights, ht]
 exact DataW.weights_mem_each (j := i) (t := f.type) (d := xs[i].1) (by simp [hfi]) (by simp [hlt]) m hm
theorem vP {H : Type} {d : DataW H} : ∀ {l : List (DataW H)}, d ∈ l → ∀ n ∈ d.weights P e, n ∈ DataW.weightsAll P e l
 | x :: l, hd, n, hn => by
  simp only [DataW.weightsAll, List.mem_append]
  rcases List.mem_cons.1 hd with rfl | hd
  ·exact .inl hn
  ·exact .inr (vP hd n hn)
theorem XM (ht : P.underlying t = some (.slice e)) (h : Tw P W t cs) : cs = [.slice none 0 0] ∨ ∃ (a : Addr) (len cap : Nat), cs = [.slice (some a) len cap] ∧ len ≤ cap ∧ cap * P.bytesOf e ≤ reachBytes ∧
  ∀ i, i < len → ∃ cs', cs'.length = P.cellsOf e ∧ (∀ o, o < P.cellsOf e → W.cell? ((a.add (i * P.cellsOf e)).add o) = cs'[o]?) ∧ Tw P W e cs' := by
 obtain ⟨H, enc, base, fuel, d, ps, h, hw⟩ := h
 rcases DataW.trod_slice ht h with ⟨rfl, _⟩ | ⟨a, len, cap, elems, rest, n, _, rfl, hx, hb, hl, hm, hlen, hel, hsp, _⟩
 ·exact .inl rfl
 ·right
  cases hx
  obtain ⟨hrl, _⟩ := hsp rfl
  simp only [DataW.weights, ht] at hw
  refine ⟨a, len, cap, rfl, hl, ?_, fun i hi => ?_⟩
  ·have := hw _ (List.mem_cons_self)
   simp only [List.length_map, hlen, hrl] at this
   rwa [show len + (cap - len) = cap by omega] at this
  ·have h1 := hel i hi
   have hlt : i < elems.length := by rw [hlen]; exact hi
   rw [List.getElem?_eq_getElem hlt, Option.bind_eq_some_iff] at h1
   obtain ⟨cs', h2, h3⟩ := h1
   obtain ⟨_, h4, h5⟩ := World.cells?_some h2
   refine ⟨cs', h4, h5, H, enc, base, n, elems[i].1, elems[i].2, h3, fun m hm2 => hw m ?_⟩
   simp only [List.mem_cons, List.mem_append]
   exact .inr (.inl (vP (d := elems[i].1) (List.mem_map.2 ⟨elems[i], List.getElem_mem hlt, rfl⟩) m hm2))
theorem Kg {α : Type} (z : α) (cell : α → Nat → AV) (good : α → Prop) {sz : Nat} (ht : P.underlying t = some (.slice e)) (hsz : P.cellsOf e = sz) (hpos : 0 < sz)
  (hel : ∀ cs', Tw P W e cs' → ∃ x : α, good x ∧ ∀ o, o < sz → ∃ c, cs'[o]? = some c ∧ c.oneCell' = true ∧ Rep E0 W (cell x o) [] c) (h : Tw P W t cs) :
  ∃ (l : List α) (v : Value), cs = [v] ∧ (∀ x ∈ l, good x) ∧ l.length * P.bytesOf e ≤ reachBytes ∧ v.oneCell' = true ∧ Rep E0 W (.sl l.length sz fun j => cell (l.getD j z)) [] v := by
 rcases XM ht h with rfl | ⟨a, len, cap, rfl, hl, hw, hx⟩
 ·refine ⟨[], _, rfl, by simp, by simp, rfl, ?_⟩
  simp only [Rep]
  exact ⟨none, 0, rfl, Nat.le_refl _, .inl rfl⟩
 ·rw [hsz] at hx
  have hx2 : ∀ i, ∃ x : α, i < len → good x ∧ ∀ o, o < sz → ∃ c, W.cell? ((a.add (i * sz)).add o) = some c ∧ c.oneCell' = true ∧ Rep E0 W (cell x o) [] c := fun i => by
   by_cases hi : i < len
   ·obtain ⟨cs', h1, h2, h3⟩ := hx i hi
    obtain ⟨x, hg, hc⟩ := hel cs' h3
    exact ⟨x, fun _ => ⟨hg, fun o ho => by
     obtain ⟨c, g1, g2, g3⟩ := hc o ho
     exact ⟨c, by rw [h2 o ho, g1], g2, g3⟩⟩⟩
   ·exact ⟨z, fun h => absurd h hi⟩
  obtain ⟨f, hf⟩ := Classical.axiomOfChoice hx2
  have hgd : ∀ j, j < len → ((List.range len).map f).getD j z = f j := fun j hj => by simp [List.getD, hj]
  refine ⟨(List.range len).map f, _, rfl, fun x hxm => ?_, ?_, rfl, ?_⟩
  ·obtain ⟨i, hi, rfl⟩ := List.mem_map.1 hxm
   exact (hf i (List.mem_range.1 hi)).1
  ·simp only [List.length_map, List.length_range]
   exact Nat.le_trans (Nat.mul_le_mul_right _ hl) hw
  ·simp only [Rep, List.length_map, List.length_range]
   refine ⟨some a, cap, rfl, hl, ?_⟩
   rcases Nat.eq_zero_or_pos len with h0 | h0
   ·exact .inl h0
   ·right
    have hspot : a.spot = none := by
     obtain ⟨c, g1, _⟩ := (hf 0 h0).2 0 hpos
     have := World.cell?_spot g1
     simpa [Addr.add] using this
    refine ⟨a, rfl, hspot, fun j o hj ho => ⟨zc3 _, ?_⟩⟩
    obtain ⟨c, g1, g2, g3⟩ := (hf j hj).2 o ho
    refine ⟨c, ?_, g2, by rw [hgd j hj]; exact g3⟩
    rw [← g1]
    obtain ⟨b, off, spot⟩ := a
    simp only at hspot
    subst hspot
    congr 1
    simp only [Addr.add]
    split <;> split <;> simp_all <;> omega
theorem KK {g : Nat} {fn : Func} {c : Code} (hf : P.funcs[g]? = some fn) (hb : fn.body = some c) (hn : (fn.name == "runtime.NumGoroutine") = false) {ctr : Ctr} (hok : zd P g ctr) {args : List AV} {vals : List Value}
  (hspec : (ctr.spec args []).holds fun r => r = (.bool true, [])) (hr : RepL E0 W args [] vals) (hst : wO E0 W) : Calls P g vals.toArray W fun e W' => e = .returned (.bool true) ∧ Below W.heap.size W W' := by
 have hn' : ¬ fn.name = "runtime.NumGoroutine" := by simpa using hn
 have hg : Good (fun _ => False) W [] := ⟨fun b h => h.elim, fun i e ad he => by simp at he, hst⟩
 have hh : HRep (Own (fun _ => False) []) W [] [] := ⟨rfl, fun i j e f a b he => by simp at he, fun i e a he => by simp at he, fun i e b he => by simp at he⟩
 rcases hok args [] _ hspec (fun _ => rfl) (fun _ => False) W [] vals hg hh hr with ⟨_, h⟩ | ⟨v, w', h, _⟩
 ·refine h.mono ?_
  rintro e W' ⟨v, rfl, r, hs, σ', hq, h1, _, _, _, _, hx⟩
  cases hq
  simp only [Rep] at h1
  subst h1
  exact ⟨rfl, hx.os, hx.tape, hx.output, hx.size, fun k hk => hx.keep k hk fun ⟨e, he, _⟩ => by simp at he⟩
 ·simp [callFunc, hf, hn', hb] at h
end
end Go.Sx
end

/- Recursive data as arguments; package-level maps that read as they are laid. -/
section
namespace Go.Sx
variable [Stat]
section
variable {P : Program} {W : World} {t e : TypeId} {cs : List Value}
end
section
open Go.WideElems Go.ChangeMaps
variable {H : Type} {enc : TypeId × Value → H} {P : Program} {W : World} {base : Nat} {sp : Nat → Bool} {held : Bool}
end
end Go.Sx
end

/- What rows hand to laws about logs: arguments as data. -/
section
set_option maxRecDepth 100000
namespace Go.Proofs.Ythhkojokgcngnaa
open Go Go.Sx Go.Nov Go.Proofs.Try Go.ChangeShapes Go.WideShapes Go.ChangeAt Go.RowKit
theorem ZW : Try.prog.cellsOf 9 = 1 := by kernel_rfl
theorem KW : Try.prog.cellsOf 25 = 1 := by kernel_rfl
theorem k9 : Try.prog.cellsOf 3 = 1 := by kernel_rfl
theorem Y2 : Try.prog.cellsOf 5 = 1 := by kernel_rfl
theorem W7 : Try.prog.cellsOf 4 = 1 := by kernel_rfl
theorem QU : Try.prog.cellsOf 27 = 9 := by kernel_rfl
theorem Ky : Try.prog.cellsOf 22 = 1 := by kernel_rfl
theorem Ka : Try.prog.cellsOf 24 = 1 := by kernel_rfl
theorem Xy {W : World} {cs : List Value} (h : Tw Try.prog W 27 cs) : ∃ x : Ev, (x.zb.length ≤ reachBytes ∧ x.name.length ≤ reachBytes ∧ x.value.length ≤ reachBytes) ∧ cs = [.int .u8 x.kind, .int .i64 x.id, .int .i64 x.entry, .int .i64 x.target, .int .i64 x.date, .string ⟨x.zb.toArray⟩, .string ⟨x.name.toArray⟩, .string ⟨x.value.toArray⟩, .bool x.first] := by
 obtain ⟨hl, hf⟩ := Qd Try.underlying27 h
 rw [QU] at hl
 match cs, hl with
 | [a, b, c, d, e, f, g, h, i], _ =>
  have h0 : Tw Try.prog W 5 (([a, b, c, d, e, f, g, h, i].drop 0).take (Try.prog.cellsOf 5)) := hf 0 _ rfl
  rw [Y2] at h0
  replace h0 : Tw Try.prog W 5 [a] := h0
  have h1 : Tw Try.prog W 3 (([a, b, c, d, e, f, g, h, i].drop 1).take (Try.prog.cellsOf 3)) := hf 1 _ rfl
  rw [k9] at h1
  replace h1 : Tw Try.prog W 3 [b] := h1
  have h2 : Tw Try.prog W 3 (([a, b, c, d, e, f, g, h, i].drop 2).take (Try.prog.cellsOf 3)) := hf 2 _ rfl
  rw [k9] at h2
  replace h2 : Tw Try.prog W 3 [c] := h2
  have h3 : Tw Try.prog W 3 (([a, b, c, d, e, f, g, h, i].drop 3).take (Try.prog.cellsOf 3)) := hf 3 _ rfl
  rw [k9] at h3
  replace h3 : Tw Try.prog W 3 [d] := h3
  have h4 : Tw Try.prog W 3 (([a, b, c, d, e, f, g, h, i].drop 4).take (Try.prog.cellsOf 3)) := hf 4 _ rfl
  rw [k9] at h4
  replace h4 : Tw Try.prog W 3 [e] := h4
  have h5 : Tw Try.prog W 9 (([a, b, c, d, e, f, g, h, i].drop 5).take (Try.prog.cellsOf 9)) := hf 5 _ rfl
  rw [ZW] at h5
  replace h5 : Tw Try.prog W 9 [f] := h5
  have h6 : Tw Try.prog W 9 (([a, b, c, d, e, f, g, h, i].drop 6).take (Try.prog.cellsOf 9)) := hf 6 _ rfl
  rw [ZW] at h6
  replace h6 : Tw Try.prog W 9 [g] := h6
  have h7 : Tw Try.prog W 25 (([a, b, c, d, e, f, g, h, i].drop 7).take (Try.prog.cellsOf 25)) := hf 7 _ rfl
  rw [KW] at h7
  replace h7 : Tw Try.prog W 25 [h] := h7
  have h8 : Tw Try.prog W 4 (([a, b, c, d, e, f, g, h, i].drop 8).take (Try.prog.cellsOf 4)) := hf 8 _ rfl
  rw [W7] at h8
  replace h8 : Tw Try.prog W 4 [i] := h8
  obtain ⟨x0, y0, w0⟩ := ye Try.underlying5 h0
  obtain ⟨x1, y1, w1⟩ := ye Try.underlying3 h1
  obtain ⟨x2, y2, w2⟩ := ye Try.underlying3 h2
  obtain ⟨x3, y3, w3⟩ := ye Try.underlying3 h3
  obtain ⟨x4, y4, w4⟩ := ye Try.underlying3 h4
  obtain ⟨x5, y5, w5⟩ := WL Try.underlying9 h5
  obtain ⟨x6, y6, w6⟩ := WL Try.underlying9 h6
  obtain ⟨x7, y7, w7⟩ := WL Try.underlying25 h7
  obtain ⟨x8, y8⟩ := UG Try.underlying4 h8
  cases y0; cases y1; cases y2; cases y3; cases y4; cases y5; cases y6; cases y7; cases y8
  exact ⟨⟨x0, x1, x2, x3, x4, x5, x6, x7, x8⟩, ⟨w5, w6, w7⟩, rfl⟩
theorem Kl {W : World} {cs : List Value} (h : Tw Try.prog W 24 cs) : ∃ l : List Ev, VX l ∧ Rep E0 W (.agg [evS l]) [] (.agg cs.toArray) := by
 obtain ⟨hl, hf⟩ := Qd Try.underlying24 h
 rw [Ka] at hl
 match cs, hl with
 | [a], _ =>
  have h0 : Tw Try.prog W 22 (([a].drop 0).take (Try.prog.cellsOf 22)) := hf 0 _ rfl
  rw [Ky] at h0
  replace h0 : Tw Try.prog W 22 [a] := h0
  obtain ⟨l, v, e1, gl, wl, _, rl⟩ := Kg Ev.nil Ev.cell (fun x => x.zb.length ≤ reachBytes ∧ x.name.length ≤ reachBytes ∧ x.value.length ≤ reachBytes) Try.underlying22 QU (by decide) (fun cs' h' => by
   obtain ⟨x, hx, rfl⟩ := Xy h'
   refine ⟨x, hx, fun o ho => ?_⟩
   match o, ho with
   | 0, _ => exact ⟨_, rfl, rfl, by simp [Rep, Ev.cell]⟩
   | 1, _ => exact ⟨_, rfl, rfl, by simp [Rep, Ev.cell]⟩
   | 2, _ => exact ⟨_, rfl, rfl, by simp [Rep, Ev.cell]⟩
   | 3, _ => exact ⟨_, rfl, rfl, by simp [Rep, Ev.cell]⟩
   | 4, _ => exact ⟨_, rfl, rfl, by simp [Rep, Ev.cell]⟩
   | 5, _ => exact ⟨_, rfl, rfl, by simp [Rep, Ev.cell]⟩
   | 6, _ => exact ⟨_, rfl, rfl, by simp [Rep, Ev.cell]⟩
   | 7, _ => exact ⟨_, rfl, rfl, by simp [Rep, Ev.cell]⟩
   | 8, _ => exact ⟨_, rfl, rfl, by simp [Rep, Ev.cell]⟩) h0
  have b1 : Try.prog.bytesOf 27 = 96 := by kernel_rfl
  rw [b1] at wl
  have hr := reachBytes_lt
  refine ⟨l, ⟨by omega, fun j hj => ?_⟩, ?_⟩
  ·have := gl (l.getD j Ev.nil) (by simp [List.getD, hj])
   exact ⟨by omega, by omega, by omega⟩
  ·simp only [RepL, Rep]
   cases e1
   exact ⟨_, rfl, _, _, rfl, rl, rfl⟩
theorem U1 {W : World} {cs : List Value} (h : Tw Try.prog W 3 cs) : ∃ n : Int, cs = [.int .i64 n] ∧ inR .i64 n ∧ Rep E0 W (.int .i64 n) [] (.int .i64 n) := by
 obtain ⟨n, rfl, hn⟩ := ye Try.underlying3 h
 refine ⟨n, rfl, ?_, by simp [Rep]⟩
 simp only [Lit.wf, Bool.and_eq_true, decide_eq_true_eq] at hn
 exact hn
end Go.Proofs.Ythhkojokgcngnaa
end

/- For every input the law returns true, and each argument reads behind the call as it read before. -/
section
set_option maxRecDepth 100000
namespace Go.Proofs.Ythhkojokgcngnaa
open Go Go.Sx Go.Nov Go.Proofs.Try Go.ChangeShapes Go.WideShapes Go.ChangeAt Go.RowKit
theorem walk {W : World} {v0 v1 : List Value} (h0 : Tw Try.prog W 24 v0) (h1 : Tw Try.prog W 3 v1) :
  ∃ s1 : Value, v1 = [s1] ∧ Calls Try.prog 4 #[.agg v0.toArray, s1] W fun e W' => e = .returned (.bool true) ∧ Below W.heap.size W W' := by
 obtain ⟨l, lg, lr⟩ := Kl h0
 obtain ⟨tm, rfl, tmg, tmr⟩ := U1 h1
 refine ⟨_, rfl, ?_⟩
 refine KK (fn := Try.f4) (c := Try.f4.body.getD .skip) rfl rfl rfl Y3 (args := [.agg [evS l], .int .i64 tm]) (vals := [.agg v0.toArray, .int .i64 tm]) ?_ ?_ KD
 ·refine ⟨(l, tm), ⟨?_, ⟨lg, tmg⟩⟩, ⟨true, rfl⟩, ?_⟩
  ·simp [eqL, eqA, eqA0, eqL0, envA, fxS, chS, Fx.av, Ch.av, Ex.exA, Ex.exS, evS,Ev.av, za]
  ·rintro _ rfl
   rfl
 ·exact ⟨_, _, rfl, lr, ⟨_, _, rfl, tmr, rfl⟩⟩
theorem own : ownKnob Try.prog.godebug = none := by kernel_rfl
theorem laid : laidOutB Try.prog = true := by kernel_rfl
theorem lifted (os : Os) (started : os.Started) (H : Type) (enc : TypeId × Value → H) :
  ReturnsInHanded {} Try.checked os 4 .any (Rows.storeRebuiltSpec.pre6 enc Try.prog Try.f4 Rows.storeRebuiltRow.domain false) (Rows.storeRebuiltSpec.post enc Try.prog Try.f4 false true false false) := by
 refine returnsInHanded_of_change_sized (C := Try.checked) own started (by kernel_rfl) Try.func4
  (ChangeSpec.witness6 (enc := enc) (C := Try.checked) false ⟨#[], #[.agg #[.slice none 0 0], .int .i64 0], []⟩ 8 (by kernel_rfl) (by kernel_rfl) (by kernel_rfl) (by kernel_rfl)) ?_
 intro W base args ds gs before hval0 hW hcnd hwt _
 have hval : ∀ (j : Nat) t v, Try.f4.params[j]? = some t → args[j]? = some v → Value.okWide Try.prog W .any base t v := hval0
 have hW' := hW
 obtain ⟨p, q, hA0, hV, rfl, hfz, hnd⟩ := hW
 have hA : DataW.TrodAll enc Try.prog W 0 (fun _ => true) true Try.f4.params.toList args.toList ds p := hA0
 rw [Try.params4] at hA hval
 obtain ⟨v0, vs0, d0, ds0, p0, q0, hargs, rfl, rfl, h0, r0⟩ := trodAll_cons hA
 obtain ⟨v1, vs1, d1, ds1, p1, q1, rfl, rfl, rfl, h1, r1⟩ := trodAll_cons r0
 obtain ⟨rfl, rfl, rfl⟩ := trodAll_nil r1
 obtain rfl : args = #[v0, v1] := by cases args; simp_all
 obtain ⟨rfl, rfl⟩ := trodVars_none hV
 clear hA0 hval0
 simp only [List.append_nil] at hW' hwt
 have hw : ∀ (j : Nat) (t : TypeId) (d : DataW H), [24, 3][j]? = some t → [d0, d1][j]? = some d → ∀ n ∈ d.weights Try.prog t, n ≤ reachBytes := fun j t d ht hd n hn => by
  have := List.all_eq_true.1 hwt n (DataW.weights_mem_each (j := j) (t := t) (d := d) (by exact ht) (by exact hd) n hn)
  simpa using this
 obtain ⟨c0, rfl, _⟩ := okWide_struct Try.underlying24 (hval 0 24 v0 rfl rfl)
 obtain ⟨c1, rfl⟩ := okWide_int Try.underlying3 (hval 1 3 v1 rfl rfl)
 have t0 : Tw Try.prog W 24 c0.toList := by
  obtain ⟨fuel, hf⟩ := h0
  exact ⟨H, enc, 0, fuel, d0, p0, by simpa [Value.cells] using hf, hw 0 _ d0 rfl rfl⟩
 have t1 : Tw Try.prog W 3 [.int .i64 c1] := by
  obtain ⟨fuel, hf⟩ := h1
  exact ⟨H, enc, 0, fuel, d1, p1, by simpa [Value.cells] using hf, hw 1 _ d1 rfl rfl⟩
 have hlt : ∀ x ∈ p0 ++ p1, x.block < W.heap.size := fun x hx => by simpa using hW'.lt x (by simpa using hx)
 obtain ⟨s1, e1, hcall⟩ := walk t0 t1
 cases e1
 simp only [Array.toArray_toList] at hcall
 refine hcall.mono fun e W' ⟨he, hb⟩ => ?_
 subst he
 refine ⟨_, rfl, _, _, _, [], p0 ++ p1, [], hW', trodAll_mk1 (shut_bool Try.underlying4 true), ?_, rfl, hb.frame _, fun h => by cases h⟩
 exact trodAll_mk2 (Below.trod laid (by kernel_rfl) (of_decide_eq_true (by kernel_rfl)) h0 hb fun x hx => hlt x (by simp [hx])) (Below.trod laid (by kernel_rfl) (of_decide_eq_true (by kernel_rfl)) h1 hb fun x hx => hlt x (by simp [hx]))
theorem over : Rows.storeRebuiltRow.holds Try.pinned (OpenSpec.ofChange Rows.storeRebuiltSpec) :=
 OpenClaim.holds_of_wide 4 Try.f4 rfl rfl rfl rfl rfl rfl rfl ⟨rfl, rfl, rfl, rfl, rfl⟩ rfl rfl rfl rfl rfl (by kernel_rfl) Try.func4 (by kernel_rfl)
  (of_decide_eq_true (by kernel_rfl)) (by unfold Func.isWrapper; first | (rw [if_pos (by decide +kernel)]; kernel_rfl) | (rw [if_neg (by decide +kernel)]; exact ⟨rfl, rfl⟩))
  (fun os started H enc _ => lifted os started H enc)
theorem storeRebuilt_holds : Rows.StoreRebuiltSaid := over
end Go.Proofs.Ythhkojokgcngnaa
end
