/- The law returns true for every input, and each argument reads afterwards as it read before; no condition. -/
import Derived.Test.YthhkojokgcngnaaSxf
import Derived.KernelRfl
import Derived.SizedLaws
import Derived.ChangeArms
import Derived.Deep.Slices
import Derived.Carry
import Derived.LaidMore
import Derived.WideKeyElems2
import Derived.ProofKit
import Derived.OpenShut
import Derived.ReadAgain
import Derived.Test.YthhkojokgcngnaaRows
set_option linter.unusedVariables false
set_option linter.unusedSimpArgs false
set_option linter.unusedSectionVars false

/- The store: what is known. -/
section
set_option maxRecDepth 100000
open Go Go.Sx Go.Proofs Go.Nov
namespace Go.Proofs.Try
attribute [local simp] eqKV eqA eqA0 eqH eqB eqL eqL0
noncomputable def K34 : List Go.Sx.Item := [.code (Try.f34.body.getD .skip)]
theorem Wr {l : List Ev} {n : Nat} (h : n ≤ l.length) : eqG n 9 (zg (evG l) 0) (evG (l.take n)) := by
 intro j o hj ho
 simp only [zg, evG, Nat.zero_add]
 congr 1
 simp only [List.getD]
 rw [List.getElem?_take, if_pos hj]
theorem zaa {l : List Ev} {tm : Int} : (if idxB (fun x : Ev => decide (tm < x.entry)) l < 0 then (l.length : Int) else idxB (fun x : Ev => decide (tm < x.entry)) l) = (cutE l tm : Int) ∧ cutE l tm ≤ l.length := by
 unfold idxB cutE
 have h := List.findIdx_le_length (xs := l) (p := fun e => decide (tm < e.entry))
 refine ⟨?_, h⟩
 split
 ·rw [if_neg (by omega)]
 ·rw [if_pos (by omega)]; omega
def jY (l : List Ev) : Prop := ∀ e ∈ l, zB e
theorem KU {l : List Ev} {i : Nat} {x : Ev} (h : jY l) (hx : zB x) : jY (l.set i x) := fun e he => by
 rcases List.mem_or_eq_of_mem_set he with h1 | h1
 ·exact h e h1
 ·rw [h1]; exact hx
theorem X4 {s : SS} {e : Ev} (h : jY s.lat) (he : zB e) : jY (s.add e).lat := by
 have hn : zB Ev.nil := ⟨by decide, by decide, by decide⟩
 have app : ∀ {l : List Ev} {x : Ev}, jY l → zB x → jY (l ++ [x]) := fun {l x} hl hx y hy => by
  rcases List.mem_append.1 hy with g | g
  ·exact hl y g
  ·rw [List.mem_singleton.1 g]; exact hx
 unfold SS.add
 split
 ·exact h
 ·split
  ·refine app ?_ hn
   unfold SS.cor
   split
   ·refine KU h ?_
    unfold SS.fixed
    split
    ·exact hn
    ·have := kP h (e.target.toNat - 1)
     exact ⟨this.1, this.2.1, he.2.2⟩
   ·exact h
  ·exact app h he
theorem xd : ∀ {l : List Ev} {s t : SS}, jY s.lat → jY l → s.play l = some t → jY t.lat
 | [], s, t, h, _, hp => by cases hp; exact h
 | e :: l, s, t, h, hl, hp => by
  simp only [SS.play] at hp
  split at hp
  ·exact xd (X4 h (hl e (by simp))) (fun x hx => hl x (by simp [hx])) hp
  ·cases hp
def wY (lat : List Ev) (i : Nat) : KV := [(2, .fn 35 [] []), (6, .ptr 2 0), (11, .ptr 7 0), (46, .osl 6 9 0 lat.length), (47, .int .i64 (lat.length : Int)), (48, .int .i64 i), (71, .undef), (72, .undef), (73, .undef), (74, .undef)]
def jy (lat : List Ev) (f : List Fx) (c : List Ch) : Heap := [.dead, .dead, .box [.nils, .nils], .dead, .dead, .dead, .arr lat.length 9 (evG lat), .box [fxS f, chS c]]
def knVC : Ctr := ctrP false (fun p : List Ev × Int => [.agg [evS p.1], .int .i64 p.2, .fn 35 [] []]) (fun p => evP p.1) (fun p r => r = zw p.1 p.2 none) (fun _ (r : EnvL × Int) => (.tup [envA r.1.1 r.1.2, .int .i64 r.2], []))
noncomputable def GKnV : Nat → Option Ctr := fun f => if f = 15 then some (J7) else if f = 57 then some (ixEC) else if f = 29 then some (repC) else if f = 35 then some (kv1C) else if f = 59 then some (zbm) else if f = 60 then some (zbc) else none
theorem K1 : ∀ g c, GKnV g = some c → zd Try.prog g c := okIf XA (okIf zbs (okIf Vt (okIf zc3 (okIf zan (okIf UH (zu))))))
theorem Ua {O : Nat → Prop} {w0 : World} {Q : AV × Heap → Prop} {Hs : Nat → KV → Heap → Prop} (lat : List Ev) (hs : jY lat) (hl : lat.length ≤ 1000)
  (hq : Q (.tup [envA (qR none lat ([], [])).1.1 (qR none lat ([], [])).1.2, .int .i64 (qR none lat ([], [])).2], [])) :
  zc Try.prog Try.f34 O 0 w0 [] Hs (RetR knVC 0 Q) (.code (.loop (lps K34 0).1) :: (lps K34 0).2) (mk Try.f34.ntmps (wY lat 0) (jy lat [] [])) := by
 refine zc.loop (ι := {p : Nat × EnvL // p.1 ≤ lat.length ∧ envP p.2 ∧ qR none (lat.drop p.1) p.2 = qR none lat ([], [])}) (fun p => wY lat p.1.1) (fun p => jy lat p.1.2.1 p.1.2.2) (fun p => lat.length - p.1.1) ⟨(0, ([], [])), Nat.zero_le _, um (by decide) (by decide) (by simp) (by simp), rfl⟩ 0 ?_ ?_ (by kernel_rfl)
 ·exact ⟨by simp [wY], by simp [jy, fxS, chS, za], by kernel_rfl, by simp [jy]⟩
 ·rintro ⟨⟨i, f, c⟩, hil, hep, hfo⟩
  simp only at hil hep hfo
  refine zc.run hmix K1 [2, 6, 11, 46, 47, 48, 71, 72, 73, 74] 400 (T := .ite (decide ((↑i : Int) < lat.length)) (.side ((0 : Int) ≤ i ∧ (↑i : Int) < lat.length) (.ex (fun (x : Ev) => decide (Ev.kind (List.getD lat (0 + Int.toNat (↑i : Int)) Ev.nil) = (0 : Int)) = false → eqL [AV.agg [AV.int .u8 (Ev.kind (List.getD lat (0 + Int.toNat (↑i : Int)) Ev.nil)), AV.int .i64 (Ev.id (List.getD lat (0 + Int.toNat (↑i : Int)) Ev.nil)), AV.int .i64 (Ev.entry (List.getD lat (0 + Int.toNat (↑i : Int)) Ev.nil)), AV.int .i64 (Ev.target (List.getD lat (0 + Int.toNat (↑i : Int)) Ev.nil)), AV.int .i64 (Ev.date (List.getD lat (0 + Int.toNat (↑i : Int)) Ev.nil)), AV.str (Ev.zb (List.getD lat (0 + Int.toNat (↑i : Int)) Ev.nil)), AV.str (Ev.name (List.getD lat (0 + Int.toNat (↑i : Int)) Ev.nil)), AV.str (Ev.value (List.getD lat (0 + Int.toNat (↑i : Int)) Ev.nil)), AV.bool (Ev.first (List.getD lat (0 + Int.toNat (↑i : Int)) Ev.nil))]] [AV.agg [AV.int .u8 x.kind, AV.int .i64 x.id, AV.int .i64 x.entry, AV.int .i64 x.target, AV.int .i64 x.date, AV.str x.zb, AV.str x.name, AV.str x.value, AV.bool x.first]] ∧ True) fun n => .all (fun (x : Bool) => decide (Ev.kind (List.getD lat (0 + Int.toNat (↑i : Int)) Ev.nil) = (0 : Int)) = false → x = true) fun n => .ite (bif decide (Ev.kind (List.getD lat (0 + Int.toNat (↑i : Int)) Ev.nil) = (0 : Int)) then true else !n) (.ite false (.leaf (.ret [.agg [.nils, .nils], .int .i64 0] [.dead, .dead, .box [.nils, .nils], .dead, .dead, .dead, .arr lat.length 9 (evG lat), .box [.sl f.length 3 (fxG f), .sl c.length 4 (chG c)], .box [.int .u8 (Ev.kind (List.getD lat (0 + Int.toNat (↑i : Int)) Ev.nil)), .int .i64 (Ev.id (List.getD lat (0 + Int.toNat (↑i : Int)) Ev.nil)), .int .i64 (Ev.entry (List.getD lat (0 + Int.toNat (↑i : Int)) Ev.nil)), .int .i64 (Ev.target (List.getD lat (0 + Int.toNat (↑i : Int)) Ev.nil)), .int .i64 (Ev.date (List.getD lat (0 + Int.toNat (↑i : Int)) Ev.nil)), .str (Ev.zb (List.getD lat (0 + Int.toNat (↑i : Int)) Ev.nil)), .str (Ev.name (List.getD lat (0 + Int.toNat (↑i : Int)) Ev.nil)), .str (Ev.value (List.getD lat (0 + Int.toNat (↑i : Int)) Ev.nil)), .bool (Ev.first (List.getD lat (0 + Int.toNat (↑i : Int)) Ev.nil))]])) (.side (inR .i64 ((↑i : Int) + (1 : Int))) (.leaf (.back 0 [(2, .fn 35 [] []), (6, .ptr 2 0), (11, .ptr 7 0), (46, .osl 6 9 0 lat.length), (47, .int .i64 lat.length), (48, .int .i64 ((↑i : Int) + (1 : Int))), (71, .undef), (72, .undef), (73, .undef), (74, .undef)] [.dead, .dead, .box [.nils, .nils], .dead, .dead, .dead, .arr lat.length 9 (evG lat), .box [.sl f.length 3 (fxG f), .sl c.length 4 (chG c)], .box [.int .u8 (Ev.kind (List.getD lat (0 + Int.toNat (↑i : Int)) Ev.nil)), .int .i64 (Ev.id (List.getD lat (0 + Int.toNat (↑i : Int)) Ev.nil)), .int .i64 (Ev.entry (List.getD lat (0 + Int.toNat (↑i : Int)) Ev.nil)), .int .i64 (Ev.target (List.getD lat (0 + Int.toNat (↑i : Int)) Ev.nil)), .int .i64 (Ev.date (List.getD lat (0 + Int.toNat (↑i : Int)) Ev.nil)), .str (Ev.zb (List.getD lat (0 + Int.toNat (↑i : Int)) Ev.nil)), .str (Ev.name (List.getD lat (0 + Int.toNat (↑i : Int)) Ev.nil)), .str (Ev.value (List.getD lat (0 + Int.toNat (↑i : Int)) Ev.nil)), .bool (Ev.first (List.getD lat (0 + Int.toNat (↑i : Int)) Ev.nil))]])))) (.ite (decide (Ev.kind (List.getD lat (0 + Int.toNat (↑i : Int)) Ev.nil) = (1 : Int))) (.ex (fun (x : (List Fx × List Ch) × Fx) => eqL [AV.agg [AV.sl f.length 3 (fxG f), AV.sl c.length 4 (chG c)], AV.agg [AV.str (Ev.name (List.getD lat (0 + Int.toNat (↑i : Int)) Ev.nil)), AV.int .i64 (Ev.date (List.getD lat (0 + Int.toNat (↑i : Int)) Ev.nil)), AV.str (Ev.value (List.getD lat (0 + Int.toNat (↑i : Int)) Ev.nil))]] [AV.agg [AV.sl x.1.1.length 3 (fxG x.1.1), AV.sl x.1.2.length 4 (chG x.1.2)], AV.agg [AV.str x.2.name, AV.int .i64 x.2.date, AV.str x.2.value]] ∧ envP x.1 ∧ jb x.2) fun n => .all (fun (r : (List Fx × List Ch) × Int) => r = putF n.1.1 n.1.2 n.2) fun n => .ite (!decide (n.2 = 0)) (.leaf (.ret [.agg [.nils, .nils], .int .i64 n.2] [.dead, .dead, .box [.nils, .nils], .dead, .dead, .dead, .arr lat.length 9 (evG lat), .box [.sl n.1.1.length 3 (fxG n.1.1), .sl n.1.2.length 4 (chG n.1.2)], .box [.int .u8 (Ev.kind (List.getD lat (0 + Int.toNat (↑i : Int)) Ev.nil)), .int .i64 (Ev.id (List.getD lat (0 + Int.toNat (↑i : Int)) Ev.nil)), .int .i64 (Ev.entry (List.getD lat (0 + Int.toNat (↑i : Int)) Ev.nil)), .int .i64 (Ev.target (List.getD lat (0 + Int.toNat (↑i : Int)) Ev.nil)), .int .i64 (Ev.date (List.getD lat (0 + Int.toNat (↑i : Int)) Ev.nil)), .str (Ev.zb (List.getD lat (0 + Int.toNat (↑i : Int)) Ev.nil)), .str (Ev.name (List.getD lat (0 + Int.toNat (↑i : Int)) Ev.nil)), .str (Ev.value (List.getD lat (0 + Int.toNat (↑i : Int)) Ev.nil)), .bool (Ev.first (List.getD lat (0 + Int.toNat (↑i : Int)) Ev.nil))]])) (.side (inR .i64 ((↑i : Int) + (1 : Int))) (.leaf (.back 0 [(2, .fn 35 [] []), (6, .ptr 2 0), (11, .ptr 7 0), (46, .osl 6 9 0 lat.length), (47, .int .i64 lat.length), (48, .int .i64 ((↑i : Int) + (1 : Int))), (71, .undef), (72, .undef), (73, .undef), (74, .undef)] [.dead, .dead, .box [.nils, .nils], .dead, .dead, .dead, .arr lat.length 9 (evG lat), .box [.sl n.1.1.length 3 (fxG n.1.1), .sl n.1.2.length 4 (chG n.1.2)], .box [.int .u8 (Ev.kind (List.getD lat (0 + Int.toNat (↑i : Int)) Ev.nil)), .int .i64 (Ev.id (List.getD lat (0 + Int.toNat (↑i : Int)) Ev.nil)), .int .i64 (Ev.entry (List.getD lat (0 + Int.toNat (↑i : Int)) Ev.nil)), .int .i64 (Ev.target (List.getD lat (0 + Int.toNat (↑i : Int)) Ev.nil)), .int .i64 (Ev.date (List.getD lat (0 + Int.toNat (↑i : Int)) Ev.nil)), .str (Ev.zb (List.getD lat (0 + Int.toNat (↑i : Int)) Ev.nil)), .str (Ev.name (List.getD lat (0 + Int.toNat (↑i : Int)) Ev.nil)), .str (Ev.value (List.getD lat (0 + Int.toNat (↑i : Int)) Ev.nil)), .bool (Ev.first (List.getD lat (0 + Int.toNat (↑i : Int)) Ev.nil))]])))) (.ex (fun (x : (List Fx × List Ch) × Ch) => eqL [AV.agg [AV.sl f.length 3 (fxG f), AV.sl c.length 4 (chG c)], AV.agg [AV.str (Ev.zb (List.getD lat (0 + Int.toNat (↑i : Int)) Ev.nil)), AV.str (Ev.name (List.getD lat (0 + Int.toNat (↑i : Int)) Ev.nil)), AV.int .i64 (Ev.date (List.getD lat (0 + Int.toNat (↑i : Int)) Ev.nil)), AV.bool (Ev.first (List.getD lat (0 + Int.toNat (↑i : Int)) Ev.nil))]] [AV.agg [AV.sl x.1.1.length 3 (fxG x.1.1), AV.sl x.1.2.length 4 (chG x.1.2)], AV.agg [AV.str x.2.zb, AV.str x.2.name, AV.int .i64 x.2.date, AV.bool x.2.first]] ∧ envP x.1 ∧ je x.2) fun n => .all (fun (r : (List Fx × List Ch) × Int) => r = putC n.1.1 n.1.2 n.2) fun n => .ite (!decide (n.2 = 0)) (.leaf (.ret [.agg [.nils, .nils], .int .i64 n.2] [.dead, .dead, .box [.nils, .nils], .dead, .dead, .dead, .arr lat.length 9 (evG lat), .box [.sl n.1.1.length 3 (fxG n.1.1), .sl n.1.2.length 4 (chG n.1.2)], .box [.int .u8 (Ev.kind (List.getD lat (0 + Int.toNat (↑i : Int)) Ev.nil)), .int .i64 (Ev.id (List.getD lat (0 + Int.toNat (↑i : Int)) Ev.nil)), .int .i64 (Ev.entry (List.getD lat (0 + Int.toNat (↑i : Int)) Ev.nil)), .int .i64 (Ev.target (List.getD lat (0 + Int.toNat (↑i : Int)) Ev.nil)), .int .i64 (Ev.date (List.getD lat (0 + Int.toNat (↑i : Int)) Ev.nil)), .str (Ev.zb (List.getD lat (0 + Int.toNat (↑i : Int)) Ev.nil)), .str (Ev.name (List.getD lat (0 + Int.toNat (↑i : Int)) Ev.nil)), .str (Ev.value (List.getD lat (0 + Int.toNat (↑i : Int)) Ev.nil)), .bool (Ev.first (List.getD lat (0 + Int.toNat (↑i : Int)) Ev.nil))]])) (.side (inR .i64 ((↑i : Int) + (1 : Int))) (.leaf (.back 0 [(2, .fn 35 [] []), (6, .ptr 2 0), (11, .ptr 7 0), (46, .osl 6 9 0 lat.length), (47, .int .i64 lat.length), (48, .int .i64 ((↑i : Int) + (1 : Int))), (71, .undef), (72, .undef), (73, .undef), (74, .undef)] [.dead, .dead, .box [.nils, .nils], .dead, .dead, .dead, .arr lat.length 9 (evG lat), .box [.sl n.1.1.length 3 (fxG n.1.1), .sl n.1.2.length 4 (chG n.1.2)], .box [.int .u8 (Ev.kind (List.getD lat (0 + Int.toNat (↑i : Int)) Ev.nil)), .int .i64 (Ev.id (List.getD lat (0 + Int.toNat (↑i : Int)) Ev.nil)), .int .i64 (Ev.entry (List.getD lat (0 + Int.toNat (↑i : Int)) Ev.nil)), .int .i64 (Ev.target (List.getD lat (0 + Int.toNat (↑i : Int)) Ev.nil)), .int .i64 (Ev.date (List.getD lat (0 + Int.toNat (↑i : Int)) Ev.nil)), .str (Ev.zb (List.getD lat (0 + Int.toNat (↑i : Int)) Ev.nil)), .str (Ev.name (List.getD lat (0 + Int.toNat (↑i : Int)) Ev.nil)), .str (Ev.value (List.getD lat (0 + Int.toNat (↑i : Int)) Ev.nil)), .bool (Ev.first (List.getD lat (0 + Int.toNat (↑i : Int)) Ev.nil))]]))))))) (.leaf (.ret [.agg [.sl f.length 3 (fxG f), .sl c.length 4 (chG c)], .int .i64 0] [.dead, .dead, .box [.sl f.length 3 (fxG f), .sl c.length 4 (chG c)], .dead, .dead, .dead, .arr lat.length 9 (evG lat), .box [.sl f.length 3 (fxG f), .sl c.length 4 (chG c)]]))) (by kernel_rfl) ?_
  simp only [Tree.holds, ze, inR, lo, hi, Int.toNat_natCast, Nat.zero_add]
  have cont : ∀ (v' : EnvL) (kv : KV) (h : Heap), envP v' → qR none (lat.drop (i + 1)) v' = qR none lat ([], []) → i < lat.length → LeK 0 Try.f34.ntmps kv h (wY lat (i + 1)) (jy lat v'.1 v'.2) →
    ∃ x' : {p : Nat × EnvL // p.1 ≤ lat.length ∧ envP p.2 ∧ qR none (lat.drop p.1) p.2 = qR none lat ([], [])}, lat.length - x'.1.1 < lat.length - i ∧ LeK 0 Try.f34.ntmps kv h (wY lat x'.1.1) (jy lat x'.1.2.1 x'.1.2.2) :=
   fun v' kv h g1 g2 hlt g3 => ⟨⟨(i + 1, v'), hlt, g1, g2⟩, by show lat.length - (i + 1) < lat.length - i; omega, g3⟩
  refine ⟨fun hlt => ?_, fun hge => ?_⟩
  ·have hlt : i < lat.length := by have := of_decide_eq_true hlt; omega
   refine ⟨by omega, fun _ => ?_⟩
   rw [WZ hlt] at hfo
   have hsx := kP hs i
   generalize lat.getD i Ev.nil = x at hfo hsx ⊢
   refine ⟨x, fun _ => ⟨by simp [Ev.av], trivial⟩, ⟨true, fun _ => rfl⟩, ?_⟩
   intro b hb
   have hkb : (bif decide (x.kind = 0) then true else !b) = (decide (x.kind = 0) || !vN none x) := by
    cases hd : decide (x.kind = 0) with
    | true => rfl
    | false => rw [hb hd]; rfl
   rw [hkb]
   refine ⟨fun ht => ⟨fun g => (by cases g), fun _ => ⟨by omega, fun _ => ?_⟩⟩, fun ht => ⟨fun hk => ?_, fun hk => ?_⟩⟩
   ·rw [if_pos trivial]
    have hst : qJ none (f, c) x = ((f, c), 0) := by unfold qJ; rw [if_pos ht]
    rw [hst, if_neg (by simp)] at hfo
    exact cont (f, c) _ _ hep hfo hlt ⟨by simp [wY], by simp [jy, fxS, chS, za], by kernel_rfl, by simp [jy]⟩
   ·have hst : qJ none (f, c) x = putF f c x.fx := by unfold qJ; rw [if_neg (by rw [ht]; decide), if_pos (of_decide_eq_true hk)]
    refine ⟨((f, c), x.fx), ⟨by simp [Ev.fx, za], hep, hsx.2⟩, ⟨_, rfl⟩, ?_⟩
    rintro _ rfl
    dsimp only
    rw [hst] at hfo
    refine ⟨fun h => ?_, fun h => ⟨by omega, fun _ => ?_⟩⟩
    ·have h : (putF f c x.fx).2 ≠ 0 := by simpa using h
     rw [if_pos h] at hfo
     rw [← hfo] at hq
     exact RetR.out0 hq (fun h => by cases h) (by simp [resV, exp2, exp1, exp0, ren0, eqA2, eqL1, envA, fxS, chS, za])
    ·have h : (putF f c x.fx).2 = 0 := by simpa using h
     rw [if_neg (by simpa using h)] at hfo
     rw [if_pos trivial]
     exact cont _ _ _ (Ug hep (show jb x.fx from hsx.2) h) hfo hlt ⟨by simp [wY], by simp [jy, fxS, chS, za], by kernel_rfl, by simp [jy]⟩
   ·have hst : qJ none (f, c) x = putC f c x.ch := by unfold qJ; rw [if_neg (by rw [ht]; decide), if_neg (of_decide_eq_false hk)]
    refine ⟨((f, c), x.ch), ⟨by simp [Ev.ch, za], hep, ⟨hsx.1, hsx.2.1⟩⟩, ⟨_, rfl⟩, ?_⟩
    rintro _ rfl
    dsimp only
    rw [hst] at hfo
    refine ⟨fun h => ?_, fun h => ⟨by omega, fun _ => ?_⟩⟩
    ·have h : (putC f c x.ch).2 ≠ 0 := by simpa using h
     rw [if_pos h] at hfo
     rw [← hfo] at hq
     exact RetR.out0 hq (fun h => by cases h) (by simp [resV, exp2, exp1, exp0, ren0, eqA2, eqL1, envA, fxS, chS, za])
    ·have h : (putC f c x.ch).2 = 0 := by simpa using h
     rw [if_neg (by simpa using h)] at hfo
     rw [if_pos trivial]
     exact cont _ _ _ (XW hep (show je x.ch from ⟨hsx.1, hsx.2.1⟩) h) hfo hlt ⟨by simp [wY], by simp [jy, fxS, chS, za], by kernel_rfl, by simp [jy]⟩
  ·have hge : i = lat.length := by have := of_decide_eq_false hge; omega
   subst hge
   rw [List.drop_length, show qR none [] (f, c) = ((f, c), 0) from rfl] at hfo
   rw [← hfo] at hq
   exact RetR.out0 hq (fun h => by cases h) (by simp [resV, exp2, exp1, exp0, ren0, eqA2, eqL1, envA, fxS, chS, za])
theorem zct : zd Try.prog 34 knVC := by
 refine zm (fn := Try.f34) (c := Try.f34.body.getD .skip) rfl rfl rfl fun p hp O w0 Q hq => ?_
 obtain ⟨l, tm⟩ := p
 replace hq := hq _ rfl
 simp only at hq hp
 refine zc.run hmix K1 [2, 6, 11, 46, 47, 48, 71, 72, 73, 74] 400 (T := .ex (fun (x : List Ev) => eqL [AV.agg [AV.sl l.length 9 (evG l)]] [AV.agg [AV.sl x.length 9 (evG x)]] ∧ evP x) fun n => .all (fun (r : Int) => r = if Option.isSome (SS.play { evs := [], lat := [] } n) = true then (0 : Int) else (8 : Int)) fun n => .ite (!decide (n = 0)) (.leaf (.ret [.agg [.nils, .nils], .int .i64 8] [.box [.sl l.length 9 (evG l)], .box [.int .i64 tm], .box [.nils, .nils]])) (.ite (bif decide (tm < 0) then true else decide ((1125899906842624 : Int) < tm)) (.leaf (.ret [.agg [.nils, .nils], .int .i64 2] [.box [.sl l.length 9 (evG l)], .box [.int .i64 tm], .box [.nils, .nils]])) (.ex (fun (x : List Ev × Int) => eqL [AV.sl l.length 9 (evG l), AV.fn 58 [] [AV.ptr 0 0]] [AV.sl x.1.length 9 (evG x.1), AV.fn 58 [] [AV.ptr 0 0]] ∧ eqH [.box [AV.int .i64 tm]] [.box [AV.int .i64 x.2]] ∧ 1 = 1 ∧ x.1.length < 1099511627776) fun n => .all (fun (r : Int) => r = idxB (fun (x : Ev) => decide (n.2 < Ev.entry x)) n.1) fun n_1 => .ite (decide (n_1 < 0)) (.side ((0 : Int) ≤ l.length ∧ (↑l.length : Int) ≤ l.length) (.ex (fun (x : List Ev) => eqL [AV.sl (Int.toNat (↑l.length : Int) - 0) 9 (zg (evG l) 0)] [AV.sl x.length 9 (evG x)] ∧ x.length < 1099511627776 ∧ ∀ (e : Ev), e ∈ x → zB e) fun n_2 => .ite (Option.isSome (SS.play { evs := [], lat := [] } n_2)) (.all (fun (s : SS) => SS.play { evs := [], lat := [] } n_2 = some s) fun n_3 => .leaf (.loop (Prod.fst (lps K34 0)) (Prod.snd (lps K34 0)) [(2, .fn 35 [] []), (6, .ptr 2 0), (11, .ptr 7 0), (46, .osl 6 9 0 (List.length (SS.lat n_3))), (47, .int .i64 (↑(List.length (SS.lat n_3)) : Int)), (48, .int .i64 0), (71, .undef), (72, .undef), (73, .undef), (74, .undef)] [.box [.sl l.length 9 (evG l)], .box [.int .i64 n.2], .box [.nils, .nils], .box [.osl 4 9 0 (List.length (SS.evs n_3)), .omap 5, .osl 6 9 0 (List.length (SS.lat n_3))], .arr (List.length (SS.evs n_3)) 9 (evG (SS.evs n_3)), Blk.map true [Sum.inl .u8, Sum.inr false, Sum.inr false, Sum.inl .i64] (zq (SS.lat n_3)) (zy (SS.lat n_3)), .arr (List.length (SS.lat n_3)) 9 (evG (SS.lat n_3)), .box [.nils, .nils]])) .fail)) (.side ((0 : Int) ≤ n_1 ∧ n_1 ≤ (↑l.length : Int)) (.ex (fun (x : List Ev) => eqL [AV.sl (Int.toNat n_1 - 0) 9 (zg (evG l) 0)] [AV.sl x.length 9 (evG x)] ∧ x.length < 1099511627776 ∧ ∀ (e : Ev), e ∈ x → zB e) fun n_2 => .ite (Option.isSome (SS.play { evs := [], lat := [] } n_2)) (.all (fun (s : SS) => SS.play { evs := [], lat := [] } n_2 = some s) fun n_3 => .leaf (.loop (Prod.fst (lps K34 0)) (Prod.snd (lps K34 0)) [(2, .fn 35 [] []), (6, .ptr 2 0), (11, .ptr 7 0), (46, .osl 6 9 0 (List.length (SS.lat n_3))), (47, .int .i64 (↑(List.length (SS.lat n_3)) : Int)), (48, .int .i64 0), (71, .undef), (72, .undef), (73, .undef), (74, .undef)] [.box [.sl l.length 9 (evG l)], .box [.int .i64 n.2], .box [.nils, .nils], .box [.osl 4 9 0 (List.length (SS.evs n_3)), .omap 5, .osl 6 9 0 (List.length (SS.lat n_3))], .arr (List.length (SS.evs n_3)) 9 (evG (SS.evs n_3)), Blk.map true [Sum.inl .u8, Sum.inr false, Sum.inr false, Sum.inl .i64] (zq (SS.lat n_3)) (zy (SS.lat n_3)), .arr (List.length (SS.lat n_3)) 9 (evG (SS.lat n_3)), .box [.nils, .nils]])) .fail))))) (by kernel_rfl) ?_
 simp only [Tree.holds, ze, bifO]
 have bad : ∀ (z : Int) (h : Heap), zw l tm none = (([], []), z) → RetR knVC 0 Q [.agg [.nils, .nils], .int .i64 z] h := by
  intro z h hr
  rw [hr] at hq
  exact RetR.out0 hq (fun h => by cases h) (by simp [resV, exp2, exp1, exp0, ren0, eqA2, eqL1, envA, fxS, chS, za])
 refine ⟨l, ⟨by simp [evS, za], hp⟩, ⟨_, rfl⟩, ?_⟩
 rintro _ rfl
 refine ⟨fun h => bad _ _ ?_, fun h => ⟨fun h2 => bad _ _ ?_, fun h2 => ?_⟩⟩
 ·unfold zw
  rw [if_pos]
  cases hs : (SS.play ⟨[], []⟩ l).isSome with
  | false => rfl
  | true => rw [hs] at h; simp at h
 ·have hv : (SS.play ⟨[], []⟩ l).isSome = true := by
   cases hs : (SS.play ⟨[], []⟩ l).isSome with
   | true => rfl
   | false => rw [hs] at h; simp at h
  unfold zw
  rw [if_neg (by rw [hv]; decide), if_pos (by simpa using h2)]
 have hv : (SS.play ⟨[], []⟩ l).isSome = true := by
  cases hs : (SS.play ⟨[], []⟩ l).isSome with
  | true => rfl
  | false => rw [hs] at h; simp at h
 obtain ⟨hc1, hc2⟩ := zaa (l := l) (tm := tm)
 have hlp : ∀ e ∈ l.take (cutE l tm), zB e := fun e he => hp.2 e (List.mem_of_mem_take he)
 have hpl := hp.1
 have hpt := QA hv (cutE l tm)
 have fin : ∀ s, SS.play ⟨[], []⟩ (l.take (cutE l tm)) = some s → jY s.lat ∧ s.lat.length ≤ 1000 ∧ zw l tm none = qR none s.lat ([], []) := by
  intro s hs
  obtain ⟨a1, a2, a3⟩ := Ke hs
  refine ⟨xd (s := ⟨[], []⟩) (fun e he => by simp at he) hlp hs, by rw [a1.len]; exact a3, ?_⟩
  unfold zw
  rw [if_neg (by rw [hv]; decide), if_neg (by simpa using h2), hs]
 refine ⟨(l, tm), ⟨by simp [evS, za], by simp, trivial, hpl⟩, ⟨_, rfl⟩, ?_⟩
 rintro _ rfl
 dsimp only
 have done : ∀ s, SS.play ⟨[], []⟩ (l.take (cutE l tm)) = some s → zc Try.prog Try.f34 O 0 w0 [] (fun _ _ _ => False) (RetR knVC 0 Q) (.code (.loop (lps K34 0).1) :: (lps K34 0).2) (mk Try.f34.ntmps (wY s.lat 0) (jy s.lat [] [])) := by
  intro s hs
  obtain ⟨b1, b2, b3⟩ := fin s hs
  rw [b3] at hq
  exact Ua s.lat b1 b2 hq
 refine ⟨fun hn => ⟨by omega, fun _ => ?_⟩, fun hn => ?_⟩
 ·have hn := of_decide_eq_true hn
  rw [if_pos hn] at hc1
  have e1 : cutE l tm = l.length := by omega
  refine ⟨l.take (cutE l tm), ⟨⟨⟨by rw [e1]; simp, rfl, by have := Wr hc2; simpa [e1] using this⟩, trivial⟩, by rw [List.length_take]; omega, hlp⟩, fun _ => ⟨Option.isSome_iff_exists.1 hpt, fun s hs => ?_⟩, fun g => by rw [hpt] at g; cases g⟩
  refine zc.weak (S := wY s.lat 0) (H := jy s.lat [] []) ⟨by simp [wY], by simp [jy, fxS, chS, za], by kernel_rfl, by simp [jy]⟩ (done s hs)
 ·have hn := of_decide_eq_false hn
  rw [if_neg hn] at hc1
  refine ⟨by omega, fun _ => ?_⟩
  have e1 : (idxB (fun x : Ev => decide (tm < x.entry)) l).toNat = cutE l tm := by omega
  refine ⟨l.take (cutE l tm), ⟨⟨⟨by rw [e1, List.length_take]; omega, rfl, by have := Wr hc2; rw [e1]; simpa using this⟩, trivial⟩, by rw [List.length_take]; omega, hlp⟩, fun _ => ⟨Option.isSome_iff_exists.1 hpt, fun s hs => ?_⟩, fun g => by rw [hpt] at g; cases g⟩
  refine zc.weak (S := wY s.lat 0) (H := jy s.lat [] []) ⟨by simp [wY], by simp [jy, fxS, chS, za], by kernel_rfl, by simp [jy]⟩ (done s hs)
end Go.Proofs.Try
end

/- The store: View, Past, Trail; the example. -/
section
set_option maxRecDepth 100000
open Go Go.Sx Go.Proofs Go.Nov
namespace Go.Proofs.Try
attribute [local simp] eqKV eqA eqA0 eqH eqB eqL eqL0
theorem retE {ctr : Ctr} {Q : AV × Heap → Prop} {h : Heap} {f : List Fx} {c : List Ch} {z : Int} (hf : ctr.fresh = false) (hq : Q (.tup [envA f c, .int .i64 z], [])) : RetR ctr 0 Q [.agg [.sl f.length 3 (fxG f), .sl c.length 4 (chG c)], .int .i64 z] h :=
 RetR.out0 hq (fun g => by rw [hf] at g; cases g) (by simp [resV, exp2, exp1, exp0, ren0, eqA2, eqL1, envA, fxS, chS, za])
def Ki : Ctr := ctrP false (fun p : List Ev × Int => [.agg [evS p.1], .int .i64 p.2]) (fun p => evP p.1) (fun p r => r = zw p.1 p.2 none) (fun _ (r : EnvL × Int) => (.tup [envA r.1.1 r.1.2, .int .i64 r.2], []))
noncomputable def GVw : Nat → Option Ctr := fun f => if f = 34 then some (knVC) else none
theorem zck : ∀ g c, GVw g = some c → zd Try.prog g c := okIf zct (zu)
theorem QI : zd Try.prog 18 Ki := by
 refine zm (fn := Try.f18) (c := Try.f18.body.getD .skip) rfl rfl rfl fun p hp O w0 Q hq => ?_
 obtain ⟨l, tm⟩ := p
 replace hq := hq _ rfl
 refine zc.run hmix zck [] 400 (T := .ex (fun (x : List Ev × Int) => eqL [AV.agg [AV.sl l.length 9 (evG l)], AV.int .i64 tm, AV.fn 35 [] []] [AV.agg [AV.sl x.1.length 9 (evG x.1)], AV.int .i64 x.2, AV.fn 35 [] []] ∧ evP x.1) fun n => .all (fun (r : EnvL × Int) => r = zw n.1 n.2 none) fun n => .leaf (.ret [.agg [.sl n.1.1.length 3 (fxG n.1.1), .sl n.1.2.length 4 (chG n.1.2)], .int .i64 n.2] [.box [.sl l.length 9 (evG l)], .box [.sl n.1.1.length 3 (fxG n.1.1), .sl n.1.2.length 4 (chG n.1.2)]])) (by kernel_rfl) ?_
 simp only [Tree.holds, ze]
 refine ⟨(l, tm), ⟨by simp [evS, za], hp⟩, ⟨_, rfl⟩, ?_⟩
 rintro _ rfl
 exact retE rfl hq
def YJ : Ctr := ctrP true (fun p : List Ev × Ev => [.agg [evS p.1], p.2.av]) (fun p => evP p.1 ∧ zB p.2) (fun p r => r = appS p.1 p.2) (fun _ (r : List Ev × Int) => (.tup [.agg [evS r.1], .int .i64 r.2], []))
theorem Ko : zd Try.prog 12 YJ := zd.frozen UZ (fun p r _ _ => by
  simp only [new2, List.mem_cons, List.not_mem_nil, or_false, forall_eq_or_imp, forall_eq, new1, new0]
  refine ⟨fun _ => ?_, rfl⟩
  simp only [exp0, zp, frz1, qM, List.getElem?_cons_zero, if_true, uA]
  exact fun j o hj ho => VU _ _ _ ho) (fun p r _ _ => zN (by simp [exp2, exp1, exp0, zp, frz1, qM, ren0, eqA2, eqL1, evS, vq]))
end Go.Proofs.Try
end

/- The chapter's example. -/
section
namespace Go.Nov
def acme : List UInt8 := [65, 67, 77, 69]
def exL : List Ev := [⟨1, 1, 50, 0, 46340, [], acme, [49, 48], false⟩, ⟨3, 2, 60, 1, 0, [], [], [49, 49], false⟩, ⟨5, 3, 70, 1, 0, [], [], [], false⟩, ⟨1, 4, 70, 0, 46340, [], acme, [49, 50], false⟩]
theorem za4 (i : Nat) (h : i < 4) : appS (exL.take i) (exL.getD i Ev.nil) = (exL.take (i + 1), 0) := by
 rcases (show i = 0 ∨ i = 1 ∨ i = 2 ∨ i = 3 by omega) with rfl | rfl | rfl | rfl <;> decide +kernel
theorem yd : ∀ e ∈ exL, zB e := by
 intro e he
 simp only [exL, List.mem_cons, List.not_mem_nil, or_false] at he
 rcases he with rfl | rfl | rfl | rfl <;> exact ⟨by decide, by decide, by decide⟩
theorem XF : zw exL 49 none = (([], []), 0) ∧ zw exL 50 none = (([⟨acme, 46340, [49, 48]⟩], []), 0) ∧ zw exL 60 none = (([⟨acme, 46340, [49, 49]⟩], []), 0) ∧ zw exL 69 none = (([⟨acme, 46340, [49, 49]⟩], []), 0) ∧ zw exL 70 none = (([⟨acme, 46340, [49, 50]⟩], []), 0) ∧ zw exL 1125899906842624 none = (([⟨acme, 46340, [49, 50]⟩], []), 0) :=
 ⟨by kernel_rfl, by kernel_rfl, by kernel_rfl, by kernel_rfl, by kernel_rfl, by kernel_rfl⟩
end Go.Nov
end

/- The reference's store: what it accepts. -/
section
set_option maxRecDepth 100000
open Go Go.Sx Go.Proofs Go.Nov
namespace Go.Proofs.Try
attribute [local simp] eqKV eqA eqA0 eqH eqB eqL eqL0
theorem zcj (x y : Bool) : (bif x then true else y) = (x || y) := by cases x <;> rfl
end Go.Proofs.Try
end

/- The reference's Append; sizes; the same logs. -/
section
set_option maxRecDepth 100000
open Go Go.Sx Go.Proofs Go.Nov
namespace Go.Proofs.Try
attribute [local simp] eqKV eqA eqA0 eqH eqB eqL eqL0
noncomputable def K10 : List Go.Sx.Item := [.code (Try.f10.body.getD .skip)]
def Qh (e : Ev) : Prop := e.zb.length < 2 ^ 49 ∧ e.name.length < 2 ^ 49 ∧ e.value.length < 2 ^ 49
def KD (l : List Ev) : Prop := l.length < 2 ^ 60 ∧ ∀ j, j < l.length → Qh (l.getD j Ev.nil)
def fitL (l : List Ev) : Prop := l.length ≤ 60 ∧ ∀ e ∈ l, zB e
def XZ : Ctr := ctrP true (fun e : Ev => [e.av]) Qh (fun e r => r = false → zB e) (fun _ (r : Bool) => (.bool r, []))
theorem K6 : zd Try.prog 11 XZ := by
 refine zm (fn := Try.f11) (c := Try.f11.body.getD .skip) rfl rfl rfl fun e hp O w0 Q hq => ?_
 refine zc.run hmix z7 [] 400 (T := .leaf (.ret [.bool (bif bif decide ((3000 : Int) < e.zb.length) then true else decide ((3000 : Int) < e.name.length) then true else decide ((3000 : Int) < e.value.length))] [.box [.int .u8 e.kind, .int .i64 e.id, .int .i64 e.entry, .int .i64 e.target, .int .i64 e.date, .str e.zb, .str e.name, .str e.value, .bool e.first]])) (by kernel_rfl) ?_
 simp only [Tree.holds, ze, zcj]
 refine RetR.scal (hq _ fun h => ?_) rfl rfl
 simp only [Bool.or_eq_false_iff, decide_eq_false_iff_not] at h
 exact ⟨by omega, by omega, by omega⟩
def K5 : Ctr := ctrP true (fun l : List Ev => [.agg [evS l]]) KD (fun l r => r = false → fitL l) (fun _ (r : Bool) => (.bool r, []))
def SGl (i : Nat) : KV := [(1, .ptr 0 0), (3, .int .i64 i)]
noncomputable def GGl : Nat → Option Ctr := fun f => if f = 11 then some (XZ) else none
theorem Uk : ∀ g c, GGl g = some c → zd Try.prog g c := okIf K6 (zu)
theorem XC : zd Try.prog 10 K5 := by
 refine zm (fn := Try.f10) (c := Try.f10.body.getD .skip) rfl rfl rfl fun l hp O w0 Q hq => ?_
 refine zc.run hmix Uk [1, 3] 400 (T := .ite (decide ((60 : Int) < l.length)) (.leaf (.ret [.bool true] [.box [.sl l.length 9 (evG l)]])) (.leaf (.loop (Prod.fst (lps K10 0)) (Prod.snd (lps K10 0)) [(1, .ptr 0 0), (3, .int .i64 0)] [.box [.sl l.length 9 (evG l)]]))) (by kernel_rfl) ?_
 simp only [Tree.holds, ze]
 refine ⟨fun h => RetR.scal (hq true fun g => (by cases g)) rfl rfl, fun h => ?_⟩
 have h60 : l.length ≤ 60 := by have := of_decide_eq_false h; omega
 refine zc.loop (ι := {i : Nat // i ≤ l.length ∧ ∀ j, j < i → zB (l.getD j Ev.nil)}) (fun i => SGl i.1) (fun _ => [.box [evS l]]) (fun i => l.length - i.1) ⟨0, Nat.zero_le _, fun j hj => by omega⟩ 0 ?_ ?_ (by kernel_rfl)
 ·exact ⟨by simp [SGl], by simp [evS, za], by kernel_rfl, Nat.zero_le _⟩
 ·rintro ⟨i, hil, hbe⟩
  refine zc.run hmix Uk [1, 3] 400 (T := .ite (decide ((↑i : Int) < l.length)) (.side ((0 : Int) ≤ i ∧ (↑i : Int) < l.length) (.ex (fun (x : Ev) => eqL [AV.agg [AV.int .u8 (Ev.kind (List.getD l (Int.toNat (↑i : Int)) Ev.nil)), AV.int .i64 (Ev.id (List.getD l (Int.toNat (↑i : Int)) Ev.nil)), AV.int .i64 (Ev.entry (List.getD l (Int.toNat (↑i : Int)) Ev.nil)), AV.int .i64 (Ev.target (List.getD l (Int.toNat (↑i : Int)) Ev.nil)), AV.int .i64 (Ev.date (List.getD l (Int.toNat (↑i : Int)) Ev.nil)), AV.str (Ev.zb (List.getD l (Int.toNat (↑i : Int)) Ev.nil)), AV.str (Ev.name (List.getD l (Int.toNat (↑i : Int)) Ev.nil)), AV.str (Ev.value (List.getD l (Int.toNat (↑i : Int)) Ev.nil)), AV.bool (Ev.first (List.getD l (Int.toNat (↑i : Int)) Ev.nil))]] [AV.agg [AV.int .u8 x.kind, AV.int .i64 x.id, AV.int .i64 x.entry, AV.int .i64 x.target, AV.int .i64 x.date, AV.str x.zb, AV.str x.name, AV.str x.value, AV.bool x.first]] ∧ Qh x) fun n => .all (fun (r : Bool) => r = false → zB n) fun n => .ite n (.leaf (.ret [.bool true] [.box [.sl l.length 9 (evG l)]])) (.side (inR .i64 ((↑i : Int) + (1 : Int))) (.leaf (.back 0 [(1, .ptr 0 0), (3, .int .i64 ((↑i : Int) + (1 : Int)))] [.box [.sl l.length 9 (evG l)]]))))) (.leaf (.ret [.bool false] [.box [.sl l.length 9 (evG l)]]))) (by kernel_rfl) ?_
  simp only [Tree.holds, ze, Int.toNat_natCast, inR, lo, hi]
  refine ⟨fun h => ?_, fun h => ?_⟩
  ·have hlt : i < l.length := by have := of_decide_eq_true h; omega
   refine ⟨by omega, fun _ => ⟨l.getD i Ev.nil, ⟨by simp [Ev.av], hp.2 i hlt⟩, ⟨true, fun g => (by cases g)⟩, ?_⟩⟩
   intro b hb
   refine ⟨fun g => RetR.scal (hq true fun g => (by cases g)) rfl rfl, fun g => ⟨by omega, fun _ => ?_⟩⟩
   rw [if_pos trivial]
   refine ⟨⟨i + 1, hlt, fun j hj => ?_⟩, by show l.length - (i + 1) < l.length - i; omega, ⟨by simp [SGl], by simp [evS, za], by kernel_rfl, Nat.zero_le _⟩⟩
   by_cases e : j = i
   ·rw [e]; exact hb g
   ·exact hbe j (by omega)
  ·have hge : i = l.length := by have := of_decide_eq_false h; omega
   refine RetR.scal (hq false fun _ => ⟨h60, fun e he => ?_⟩) rfl rfl
   obtain ⟨j, hj, rfl⟩ := List.mem_iff_getElem.1 he
   have := hbe j (by omega)
   rwa [zR hj] at this
end Go.Proofs.Try
end

/- The store's example. -/
section
set_option maxRecDepth 100000
open Go Go.Sx Go.Proofs Go.Nov
namespace Go.Proofs.Try
attribute [local simp] eqKV eqA eqA0 eqH eqB eqL eqL0
noncomputable def K26 : List Go.Sx.Item := [.code (Try.f26.body.getD .skip)]
def exaC : Ctr := ctrP false (fun _ : Unit => []) (fun _ => True) (fun _ (_ : Unit) => True) (fun _ _ => (.tup [.agg [evS exL], .bool true], []))
def SXa (i : Nat) : KV := [(0, .ptr 0 0), (2, .ptr 1 0), (11, .osl 4 9 0 4), (12, .int .i64 4), (13, .int .i64 i)]
def HXa (i : Nat) : Heap := [.box [.nils], .box [evS (exL.take i)], .dead, .dead, .arr 4 9 (evG exL)]
noncomputable def fixI : Ctr := inlC Try.prog noG 100 Try.f27
theorem zch : zd Try.prog 27 fixI := QJ hmix z7 rfl rfl
noncomputable def GXa : Nat → Option Ctr := fun f => if f = 12 then some (YJ) else if f = 27 then some (fixI) else none
theorem YT : ∀ g c, GXa g = some c → zd Try.prog g c := okIf Ko (okIf zch (zu))
theorem zco : zd Try.prog 26 exaC := by
 refine zm (fn := Try.f26) (c := Try.f26.body.getD .skip) rfl rfl rfl fun p hp O w0 Q hq => ?_
 replace hq := hq () trivial
 refine zc.run hmix YT [0, 2, 11, 12, 13] 400 (T := .leaf (.loop (Prod.fst (lps K26 0)) (Prod.snd (lps K26 0)) [(0, .ptr 0 0), (2, .ptr 1 0), (11, .osl 4 9 0 4), (12, .int .i64 4), (13, .int .i64 0)] [.box [.nils], .box [.nils], .box [.int .u8 1, .int .i64 1, .int .i64 50, .int .i64 0, .int .i64 46340, .str (Array.toList #[]), .str (Array.toList #[(65 : UInt8), (67 : UInt8), (77 : UInt8), (69 : UInt8)]), .str (Array.toList #[(49 : UInt8), (48 : UInt8)]), .bool false], .box [.int .u8 1, .int .i64 4, .int .i64 70, .int .i64 0, .int .i64 46340, .str (Array.toList #[]), .str (Array.toList #[(65 : UInt8), (67 : UInt8), (77 : UInt8), (69 : UInt8)]), .str (Array.toList #[(49 : UInt8), (50 : UInt8)]), .bool false], .arr 4 9 (zf 9 [.int .u8 1, .int .i64 1, .int .i64 50, .int .i64 0, .int .i64 46340, .str (Array.toList #[]), .str (Array.toList #[(65 : UInt8), (67 : UInt8), (77 : UInt8), (69 : UInt8)]), .str (Array.toList #[(49 : UInt8), (48 : UInt8)]), .bool false, .int .u8 3, .int .i64 2, .int .i64 60, .int .i64 1, .int .i64 0, .str (Array.toList #[]), .str (Array.toList #[]), .str (Array.toList #[(49 : UInt8), (49 : UInt8)]), .bool false, .int .u8 5, .int .i64 3, .int .i64 70, .int .i64 1, .int .i64 0, .str (Array.toList #[]), .str (Array.toList #[]), .str (Array.toList #[]), .bool false, .int .u8 1, .int .i64 4, .int .i64 70, .int .i64 0, .int .i64 46340, .str (Array.toList #[]), .str (Array.toList #[(65 : UInt8), (67 : UInt8), (77 : UInt8), (69 : UInt8)]), .str (Array.toList #[(49 : UInt8), (50 : UInt8)]), .bool false])])) (by kernel_rfl) ?_
 simp only [Tree.holds, ze]
 refine zc.loop (ι := {i : Nat // i ≤ 4}) (fun i => SXa i.1) (fun i => HXa i.1) (fun i => 4 - i.1) ⟨0, by decide⟩ 0 ?_ ?_ (by kernel_rfl)
 ·refine ⟨by simp [SXa], ⟨by simp, by simp [evS, exL], trivial, trivial, ⟨rfl, rfl, fun j o hj ho => ?_⟩, trivial⟩, by kernel_rfl, Nat.zero_le _⟩
  rcases (show j = 0 ∨ j = 1 ∨ j = 2 ∨ j = 3 by omega) with rfl | rfl | rfl | rfl <;> rcases (show o = 0 ∨ o = 1 ∨ o = 2 ∨ o = 3 ∨ o = 4 ∨ o = 5 ∨ o = 6 ∨ o = 7 ∨ o = 8 by omega) with rfl | rfl | rfl | rfl | rfl | rfl | rfl | rfl | rfl <;> rfl
 ·rintro ⟨i, hi4⟩
  refine zc.run hmix YT [0, 2, 11, 12, 13] 400 (T := .ite (decide ((↑i : Int) < 4)) (.side ((0 : Int) ≤ i ∧ (↑i : Int) < 4) (.ex (fun (x : List Ev × Ev) => eqL [AV.agg [AV.sl (List.length (List.take i exL)) 9 (evG (List.take i exL))], AV.agg [AV.int .u8 (Ev.kind (List.getD exL (0 + Int.toNat (↑i : Int)) Ev.nil)), AV.int .i64 (Ev.id (List.getD exL (0 + Int.toNat (↑i : Int)) Ev.nil)), AV.int .i64 (Ev.entry (List.getD exL (0 + Int.toNat (↑i : Int)) Ev.nil)), AV.int .i64 (Ev.target (List.getD exL (0 + Int.toNat (↑i : Int)) Ev.nil)), AV.int .i64 (Ev.date (List.getD exL (0 + Int.toNat (↑i : Int)) Ev.nil)), AV.str (Ev.zb (List.getD exL (0 + Int.toNat (↑i : Int)) Ev.nil)), AV.str (Ev.name (List.getD exL (0 + Int.toNat (↑i : Int)) Ev.nil)), AV.str (Ev.value (List.getD exL (0 + Int.toNat (↑i : Int)) Ev.nil)), AV.bool (Ev.first (List.getD exL (0 + Int.toNat (↑i : Int)) Ev.nil))]] [AV.agg [AV.sl x.1.length 9 (evG x.1)], AV.agg [AV.int .u8 x.2.kind, AV.int .i64 x.2.id, AV.int .i64 x.2.entry, AV.int .i64 x.2.target, AV.int .i64 x.2.date, AV.str x.2.zb, AV.str x.2.name, AV.str x.2.value, AV.bool x.2.first]] ∧ evP x.1 ∧ zB x.2) fun n => .all (fun (r : List Ev × Int) => r = appS n.1 n.2) fun n => .ite (!decide (n.2 = 0)) (.leaf (.ret [.agg [.sl (List.length (List.take i exL)) 9 (evG (List.take i exL))], .bool false] [.box [.sl (List.length (List.take i exL)) 9 (evG (List.take i exL))], .box [.sl (List.length (List.take i exL)) 9 (evG (List.take i exL))], .dead, .dead, .arr 4 9 (evG exL), .box [.int .u8 (Ev.kind (List.getD exL (0 + Int.toNat (↑i : Int)) Ev.nil)), .int .i64 (Ev.id (List.getD exL (0 + Int.toNat (↑i : Int)) Ev.nil)), .int .i64 (Ev.entry (List.getD exL (0 + Int.toNat (↑i : Int)) Ev.nil)), .int .i64 (Ev.target (List.getD exL (0 + Int.toNat (↑i : Int)) Ev.nil)), .int .i64 (Ev.date (List.getD exL (0 + Int.toNat (↑i : Int)) Ev.nil)), .str (Ev.zb (List.getD exL (0 + Int.toNat (↑i : Int)) Ev.nil)), .str (Ev.name (List.getD exL (0 + Int.toNat (↑i : Int)) Ev.nil)), .str (Ev.value (List.getD exL (0 + Int.toNat (↑i : Int)) Ev.nil)), .bool (Ev.first (List.getD exL (0 + Int.toNat (↑i : Int)) Ev.nil))], .box [.sl n.1.length 9 (evG n.1)]])) (.side (inR .i64 ((↑i : Int) + (1 : Int))) (.leaf (.back 0 [(0, .ptr 0 0), (2, .ptr 1 0), (11, .osl 4 9 0 4), (12, .int .i64 4), (13, .int .i64 ((↑i : Int) + (1 : Int)))] [.box [.nils], .box [.sl n.1.length 9 (evG n.1)], .dead, .dead, .arr 4 9 (evG exL), .box [.int .u8 (Ev.kind (List.getD exL (0 + Int.toNat (↑i : Int)) Ev.nil)), .int .i64 (Ev.id (List.getD exL (0 + Int.toNat (↑i : Int)) Ev.nil)), .int .i64 (Ev.entry (List.getD exL (0 + Int.toNat (↑i : Int)) Ev.nil)), .int .i64 (Ev.target (List.getD exL (0 + Int.toNat (↑i : Int)) Ev.nil)), .int .i64 (Ev.date (List.getD exL (0 + Int.toNat (↑i : Int)) Ev.nil)), .str (Ev.zb (List.getD exL (0 + Int.toNat (↑i : Int)) Ev.nil)), .str (Ev.name (List.getD exL (0 + Int.toNat (↑i : Int)) Ev.nil)), .str (Ev.value (List.getD exL (0 + Int.toNat (↑i : Int)) Ev.nil)), .bool (Ev.first (List.getD exL (0 + Int.toNat (↑i : Int)) Ev.nil))], .box [.sl n.1.length 9 (evG n.1)]]))))) (.leaf (.ret [.agg [.sl (List.length (List.take i exL)) 9 (evG (List.take i exL))], .bool true] [.box [.sl (List.length (List.take i exL)) 9 (evG (List.take i exL))], .box [.sl (List.length (List.take i exL)) 9 (evG (List.take i exL))], .dead, .dead, .arr 4 9 (evG exL)]))) (by kernel_rfl) ?_
  simp only [Tree.holds, ze, inR, lo, hi, Int.toNat_natCast, Nat.zero_add]
  refine ⟨fun h => ?_, fun h => ?_⟩
  ·have hlt : i < 4 := by have := of_decide_eq_true h; omega
   refine ⟨by omega, fun _ => ⟨(exL.take i, exL.getD i Ev.nil), ⟨by simp [Ev.av, evS, za], ⟨by rw [List.length_take]; have : exL.length = 4 := rfl; omega, fun e he => yd e (List.mem_of_mem_take he)⟩, kP yd i⟩, ⟨_, rfl⟩, ?_⟩⟩
   intro r hr
   replace hr : r = (exL.take (i + 1), 0) := hr.trans (za4 i hlt)
   subst hr
   refine ⟨fun g => (by cases g), fun _ => ⟨by omega, fun _ => ?_⟩⟩
   rw [if_pos trivial]
   exact ⟨⟨i + 1, hlt⟩, by show 4 - (i + 1) < 4 - i; omega, by simp [SXa], by simp [HXa, evS, za], by kernel_rfl, Nat.zero_le _⟩
  ·have hge : i = 4 := by have := of_decide_eq_false h; omega
   subst hge
   exact RetR.out0 hq (fun h => by cases h) (by simp [resV, exp2, exp1, exp0, ren0, eqA2, eqL1, evS, exL, za])
def zaz : Ctr := ctrP true (fun p : List Ev × Int × List UInt8 => [.agg [evS p.1], .int .i64 p.2.1, .str p.2.2]) (fun p => evP p.1) (fun p r => zw p.1 p.2.1 none = (([⟨acme, 46340, p.2.2⟩], []), 0) → r = true) (fun _ (r : Bool) => (.bool r, []))
noncomputable def GSs : Nat → Option Ctr := fun f => if f = 18 then some (Ki) else if f = 19 then some (QE) else none
theorem zce : ∀ g c, GSs g = some c → zd Try.prog g c := okIf QI (okIf W6 (zu))
theorem zaj : zd Try.prog 33 zaz := by
 refine zm (fn := Try.f33) (c := Try.f33.body.getD .skip) rfl rfl rfl fun p hp O w0 Q hq => ?_
 obtain ⟨l, tm, v⟩ := p
 refine zc.run hmix zce [] 400 (T := .ex (fun (x : List Ev × Int) => eqL [AV.agg [AV.sl l.length 9 (evG l)], AV.int .i64 tm] [AV.agg [AV.sl x.1.length 9 (evG x.1)], AV.int .i64 x.2] ∧ evP x.1) fun n => .all (fun (r : EnvL × Int) => r = zw n.1 n.2 none) fun n => .ite (decide (n.2 = 0) == true) (.ex (fun (x : (List Fx × List Ch) × List Fx × List Ch) => decide (n.2 = 0) = true → eqL [AV.agg [AV.sl n.1.1.length 3 (fxG n.1.1), AV.sl n.1.2.length 4 (chG n.1.2)], AV.agg [AV.sl 1 3 (zg (zf 3 [AV.str (Array.toList #[(65 : UInt8), (67 : UInt8), (77 : UInt8), (69 : UInt8)]), AV.int .i64 46340, AV.str v]) 0), AV.nils]] [AV.agg [AV.sl x.1.1.length 3 (fxG x.1.1), AV.sl x.1.2.length 4 (chG x.1.2)], AV.agg [AV.sl x.2.1.length 3 (fxG x.2.1), AV.sl x.2.2.length 4 (chG x.2.2)]] ∧ x.1.1.length < 1099511627776 ∧ x.1.2.length < 1099511627776) fun n_1 => .all (fun (x : Bool) => decide (n.2 = 0) = true → (x = true ↔ n_1.1 = n_1.2)) fun n_2 => .leaf (.ret [.bool (bif decide (n.2 = 0) then n_2 else false)] [.box [.sl l.length 9 (evG l)], .box [.sl n.1.1.length 3 (fxG n.1.1), .sl n.1.2.length 4 (chG n.1.2)], .arr 1 3 (zf 3 [.str (Array.toList #[(65 : UInt8), (67 : UInt8), (77 : UInt8), (69 : UInt8)]), .int .i64 46340, .str v])])) (.ex (fun (x : (List Fx × List Ch) × List Fx × List Ch) => decide (n.2 = 0) = true → eqL [AV.agg [AV.sl n.1.1.length 3 (fxG n.1.1), AV.sl n.1.2.length 4 (chG n.1.2)], AV.agg [AV.nils, AV.nils]] [AV.agg [AV.sl x.1.1.length 3 (fxG x.1.1), AV.sl x.1.2.length 4 (chG x.1.2)], AV.agg [AV.sl x.2.1.length 3 (fxG x.2.1), AV.sl x.2.2.length 4 (chG x.2.2)]] ∧ x.1.1.length < 1099511627776 ∧ x.1.2.length < 1099511627776) fun n_1 => .all (fun (x : Bool) => decide (n.2 = 0) = true → (x = true ↔ n_1.1 = n_1.2)) fun n_2 => .leaf (.ret [.bool (bif decide (n.2 = 0) then n_2 else false)] [.box [.sl l.length 9 (evG l)], .box [.sl n.1.1.length 3 (fxG n.1.1), .sl n.1.2.length 4 (chG n.1.2)]]))) (by kernel_rfl) ?_
 simp only [Tree.holds, ze]
 simp only [bifA]
 refine ⟨(l, tm), ⟨by simp [evS, za], hp⟩, ⟨_, rfl⟩, ?_⟩
 intro r hr
 replace hr : r = zw l tm none := hr
 have hle := yl l tm none
 rw [← hr] at hle hq
 refine ⟨fun h => ?_, fun h => ?_⟩
 ·have h : r.2 = 0 := by simpa using h
  refine ⟨(r.1, ([⟨acme, 46340, v⟩], [])), fun _ => ⟨?_, Nat.lt_of_le_of_lt hle.1 (by decide), Nat.lt_of_le_of_lt hle.2 (by decide)⟩, ?_, ?_⟩
  ·refine ⟨by simp [za], ⟨⟨rfl, rfl, ?_⟩, by simp, trivial⟩, trivial⟩
   intro j o hj ho
   obtain rfl : j = 0 := by omega
   rcases (show o = 0 ∨ o = 1 ∨ o = 2 by omega) with rfl | rfl | rfl <;> rfl
  ·by_cases hx : r.1 = ([⟨acme, 46340, v⟩], [])
   ·exact ⟨true, fun _ => ⟨fun _ => hx, fun _ => rfl⟩⟩
   ·exact ⟨false, fun _ => ⟨fun g => (by cases g), fun g => absurd g hx⟩⟩
  ·intro b hb
   refine RetR.scal (hq _ ?_) rfl rfl
   intro g
   rw [g] at hb ⊢
   exact (hb rfl).2 rfl
 ·have h : ¬ r.2 = 0 := by simpa using h
  refine ⟨(r.1, ([], [])), fun g => absurd (of_decide_eq_true g) h, ⟨true, fun g => absurd (of_decide_eq_true g) h⟩, ?_⟩
  intro b hb
  refine RetR.scal (hq _ ?_) rfl rfl
  intro g
  rw [g] at h
  exact absurd rfl h
def K8 : Ctr := ctrP true (fun _ : Unit => []) (fun _ => True) (fun _ r => r = true) (fun _ (r : Bool) => (.bool r, []))
noncomputable def GAe : Nat → Option Ctr := fun f => if f = 26 then some (exaC) else if f = 33 then some (zaz) else if f = 18 then some (Ki) else none
theorem zc5 : ∀ g c, GAe g = some c → zd Try.prog g c := okIf zco (okIf zaj (okIf QI (zu)))
theorem KZ : zd Try.prog 17 K8 := by
 refine zm (fn := Try.f17) (c := Try.f17.body.getD .skip) rfl rfl rfl fun p hp O w0 Q hq => ?_
 replace hq := hq _ rfl
 refine zc.run hmix zc5 [] 400 (T := .ex (fun (x : Unit) => eqL [] [] ∧ True) fun n => .all (fun (x : Unit) => True) fun n => .ex (fun (x : List Ev × Int) => eqL [AV.agg [AV.sl 4 9 (evG exL)], AV.int .i64 49] [AV.agg [AV.sl x.1.length 9 (evG x.1)], AV.int .i64 x.2] ∧ evP x.1) fun n => .all (fun (r : EnvL × Int) => r = zw n.1 n.2 none) fun n => .ex (fun (x : List Ev × Int × List UInt8) => (bif true then decide ((4 : Int) = 4) else false) = true → eqL [AV.agg [AV.sl 4 9 (evG exL)], AV.int .i64 50, AV.str (Array.toList #[(49 : UInt8), (48 : UInt8)])] [AV.agg [AV.sl x.1.length 9 (evG x.1)], AV.int .i64 x.2.1, AV.str x.2.2] ∧ evP x.1) fun n_1 => .all (fun (x : Bool) => (bif true then decide ((4 : Int) = 4) else false) = true → zw n_1.1 n_1.2.1 none = (([{ name := acme, date := (46340 : Int), value := n_1.2.2 }], []), (0 : Int)) → x = true) fun n_2 => .ex (fun (x : List Ev × Int × List UInt8) => (bif bif true then decide ((4 : Int) = 4) else false then n_2 else false) = true → eqL [AV.agg [AV.sl 4 9 (evG exL)], AV.int .i64 60, AV.str (Array.toList #[(49 : UInt8), (49 : UInt8)])] [AV.agg [AV.sl x.1.length 9 (evG x.1)], AV.int .i64 x.2.1, AV.str x.2.2] ∧ evP x.1) fun n_3 => .all (fun (x : Bool) => (bif bif true then decide ((4 : Int) = 4) else false then n_2 else false) = true → zw n_3.1 n_3.2.1 none = (([{ name := acme, date := (46340 : Int), value := n_3.2.2 }], []), (0 : Int)) → x = true) fun n_4 => .ex (fun (x : List Ev × Int × List UInt8) => (bif bif bif true then decide ((4 : Int) = 4) else false then n_2 else false then n_4 else false) = true → eqL [AV.agg [AV.sl 4 9 (evG exL)], AV.int .i64 69, AV.str (Array.toList #[(49 : UInt8), (49 : UInt8)])] [AV.agg [AV.sl x.1.length 9 (evG x.1)], AV.int .i64 x.2.1, AV.str x.2.2] ∧ evP x.1) fun n_5 => .all (fun (x : Bool) => (bif bif bif true then decide ((4 : Int) = 4) else false then n_2 else false then n_4 else false) = true → zw n_5.1 n_5.2.1 none = (([{ name := acme, date := (46340 : Int), value := n_5.2.2 }], []), (0 : Int)) → x = true) fun n_6 => .ex (fun (x : List Ev × Int × List UInt8) => (bif bif bif bif true then decide ((4 : Int) = 4) else false then n_2 else false then n_4 else false then n_6 else false) = true → eqL [AV.agg [AV.sl 4 9 (evG exL)], AV.int .i64 70, AV.str (Array.toList #[(49 : UInt8), (50 : UInt8)])] [AV.agg [AV.sl x.1.length 9 (evG x.1)], AV.int .i64 x.2.1, AV.str x.2.2] ∧ evP x.1) fun n_7 => .all (fun (x : Bool) => (bif bif bif bif true then decide ((4 : Int) = 4) else false then n_2 else false then n_4 else false then n_6 else false) = true → zw n_7.1 n_7.2.1 none = (([{ name := acme, date := (46340 : Int), value := n_7.2.2 }], []), (0 : Int)) → x = true) fun n_8 => .ex (fun (x : List Ev × Int × List UInt8) => (bif bif bif bif bif true then decide ((4 : Int) = 4) else false then n_2 else false then n_4 else false then n_6 else false then n_8 else false) = true → eqL [AV.agg [AV.sl 4 9 (evG exL)], AV.int .i64 1125899906842624, AV.str (Array.toList #[(49 : UInt8), (50 : UInt8)])] [AV.agg [AV.sl x.1.length 9 (evG x.1)], AV.int .i64 x.2.1, AV.str x.2.2] ∧ evP x.1) fun n_9 => .all (fun (x : Bool) => (bif bif bif bif bif true then decide ((4 : Int) = 4) else false then n_2 else false then n_4 else false then n_6 else false then n_8 else false) = true → zw n_9.1 n_9.2.1 none = (([{ name := acme, date := (46340 : Int), value := n_9.2.2 }], []), (0 : Int)) → x = true) fun n_10 => .leaf (.ret [.bool (bif bif bif bif bif bif bif bif true then decide ((4 : Int) = 4) else false then n_2 else false then n_4 else false then n_6 else false then n_8 else false then n_10 else false then decide (n.2 = 0) else false then decide ((↑n.1.1.length : Int) = 0) else false)] [.box [.sl 4 9 (evG exL)], .box [.sl n.1.1.length 3 (fxG n.1.1), .sl n.1.2.length 4 (chG n.1.2)]])) (by kernel_rfl) ?_
 simp only [Tree.holds, ze]
 have hE : evP exL := ⟨by decide, yd⟩
 obtain ⟨v1, v2, v3, v4, v5, v6⟩ := XF
 simp only [bifA, Bool.true_and, decide_true]
 refine ⟨(), ⟨trivial, trivial⟩, ⟨(), trivial⟩, fun _ _ => ?_⟩
 refine ⟨(exL, 49), ⟨⟨⟨⟨rfl, rfl, za _ _ _⟩, trivial⟩, ⟨rfl, rfl⟩, trivial⟩, hE⟩, ⟨_, rfl⟩, ?_⟩
 intro r hr
 replace hr : r = (([], []), 0) := hr.trans v1
 subst hr
 refine ⟨(exL, 50, [49, 48]), fun _ => ⟨⟨⟨⟨rfl, rfl, za _ _ _⟩, trivial⟩, ⟨rfl, rfl⟩, rfl, trivial⟩, hE⟩, ⟨true, fun _ _ => rfl⟩, ?_⟩
 intro b0 hb0
 replace hb0 : b0 = true := hb0 trivial v2
 subst hb0
 refine ⟨(exL, 60, [49, 49]), fun _ => ⟨⟨⟨⟨rfl, rfl, za _ _ _⟩, trivial⟩, ⟨rfl, rfl⟩, rfl, trivial⟩, hE⟩, ⟨true, fun _ _ => rfl⟩, ?_⟩
 intro b1 hb1
 replace hb1 : b1 = true := hb1 rfl v3
 subst hb1
 refine ⟨(exL, 69, [49, 49]), fun _ => ⟨⟨⟨⟨rfl, rfl, za _ _ _⟩, trivial⟩, ⟨rfl, rfl⟩, rfl, trivial⟩, hE⟩, ⟨true, fun _ _ => rfl⟩, ?_⟩
 intro b2 hb2
 replace hb2 : b2 = true := hb2 rfl v4
 subst hb2
 refine ⟨(exL, 70, [49, 50]), fun _ => ⟨⟨⟨⟨rfl, rfl, za _ _ _⟩, trivial⟩, ⟨rfl, rfl⟩, rfl, trivial⟩, hE⟩, ⟨true, fun _ _ => rfl⟩, ?_⟩
 intro b3 hb3
 replace hb3 : b3 = true := hb3 rfl v5
 subst hb3
 refine ⟨(exL, 1125899906842624, [49, 50]), fun _ => ⟨⟨⟨⟨rfl, rfl, za _ _ _⟩, trivial⟩, ⟨rfl, rfl⟩, rfl, trivial⟩, hE⟩, ⟨true, fun _ _ => rfl⟩, ?_⟩
 intro b4 hb4
 replace hb4 : b4 = true := hb4 rfl v6
 subst hb4
 exact RetR.scal hq rfl rfl
end Go.Proofs.Try
end

/- Trails; older views. -/
section
namespace Go.Nov
theorem Y2 {l : List Ev} {e : Ev} (h : (appS l e).2 = 0) : ∃ s, SS.play ⟨[], []⟩ l = some s ∧ s.errA e = 0 ∧ appS l e = (l ++ [e], 0) ∧ SS.play ⟨[], []⟩ (l ++ [e]) = some (s.add e) := by
 unfold appS at h ⊢
 cases hp : SS.play ⟨[], []⟩ l with
 | none => rw [hp] at h; cases h
 | some s =>
  rw [hp] at h
  simp only at h ⊢
  by_cases g : s.errA e = 0
  ·refine ⟨s, rfl, g, by rw [if_neg (by simpa using g), (Ke hp).2.1], ?_⟩
   rw [Z4, hp]
   simp [SS.play, g]
  ·rw [if_pos g] at h; exact absurd h g
theorem zam {l : List Ev} {e : Ev} (h : (appS l e).2 ≠ 0) : (appS l e).1 = [] := by
 unfold appS at h ⊢
 cases hp : SS.play ⟨[], []⟩ l with
 | none => rfl
 | some s =>
  rw [hp] at h
  simp only at h ⊢
  split
  ·rfl
  ·rename_i g; rw [if_neg g] at h; exact absurd rfl h
end Go.Nov
end

/- What is known: facts placed one by one. -/
section
namespace Go.Nov
def z5 {α : Type} (c : α → α → Int) (xs l : List α) : List α := xs.foldl (fun l x => zh c x l) l
def zF (d : Option Int) (L : List Ev) : List Fx := (L.filter fun x => decide (x.kind = 1) && vN d x).map Ev.fx
def zE (d : Option Int) (L : List Ev) : List Ch := (L.filter fun x => decide (x.kind = 2) && vN d x).map Ev.ch
def Uu (x : Ev) : Prop := x.kind = 0 ∨ x.kind = 1 ∧ okF x.fx = true ∨ x.kind = 2 ∧ okC x.ch = true
theorem kq {d : Option Int} : ∀ {L : List Ev} {f : List Fx} {c : List Ch}, errE f c = 0 → (∀ x ∈ L, Uu x) → f.length + L.length ≤ 1000 → c.length + L.length ≤ 1000 →
  qR d L (f, c) = ((z5 cmpF (zF d L) f, z5 cmpC (zE d L) c), 0) ∧ errE (z5 cmpF (zF d L) f) (z5 cmpC (zE d L) c) = 0
 | [], f, c, h, _, _, _ => ⟨rfl, h⟩
 | x :: L, f, c, h, hg, h1, h2 => by
  simp only [List.length_cons] at h1 h2
  have hgx := hg x (by simp)
  have hgL : ∀ y ∈ L, Uu y := fun y hy => hg y (by simp [hy])
  by_cases hk : vN d x = true
  ·rcases hgx with k | ⟨k, ok⟩ | ⟨k, ok⟩
   ·have hs : qJ d (f, c) x = ((f, c), 0) := by unfold qJ; rw [if_pos (by simp [k])]
    have e1 : zF d (x :: L) = zF d L := by simp [zF, List.filter_cons, k]
    have e2 : zE d (x :: L) = zE d L := by simp [zE, List.filter_cons, k]
    rw [qR, hs, e1, e2, if_neg (by simp)]
    exact kq h hgL (by omega) (by omega)
   ·have hl := ym (c := cmpF) (x := x.fx) f
    have hs : qJ d (f, c) x = ((zh cmpF x.fx f, c), 0) := by
     unfold qJ
     rw [if_neg (by simp [k, hk]), if_pos k]
     exact UP h ok (by simp only; omega)
    have e1 : zF d (x :: L) = x.fx :: zF d L := by simp [zF, List.filter_cons, k, hk]
    have e2 : zE d (x :: L) = zE d L := by simp [zE, List.filter_cons, k]
    rw [qR, hs, e1, e2, if_neg (by simp)]
    exact kq (Vq h ok (by omega)) hgL (by omega) (by omega)
   ·have hl := ym (c := cmpC) (x := x.ch) c
    have hs : qJ d (f, c) x = ((f, zh cmpC x.ch c), 0) := by
     unfold qJ
     rw [if_neg (by simp [k, hk]), if_neg (by omega)]
     unfold putC
     simp only
     rw [if_neg (by simpa using h), if_neg (by rw [ok]; decide), if_neg (by omega)]
    have e1 : zF d (x :: L) = zF d L := by simp [zF, List.filter_cons, k]
    have e2 : zE d (x :: L) = x.ch :: zE d L := by simp [zE, List.filter_cons, k, hk]
    rw [qR, hs, e1, e2, if_neg (by simp)]
    exact kq (WC h ok (by omega)) hgL (by omega) (by omega)
  ·have hk : vN d x = false := by simpa using hk
   have hs : qJ d (f, c) x = ((f, c), 0) := by unfold qJ; rw [if_pos (by simp [hk])]
   have e1 : zF d (x :: L) = zF d L := by simp [zF, List.filter_cons, hk]
   have e2 : zE d (x :: L) = zE d L := by simp [zE, List.filter_cons, hk]
   rw [qR, hs, e1, e2, if_neg (by simp)]
   exact kq h hgL (by omega) (by omega)
end Go.Nov
namespace Go.Nov
section
variable {α : Type} {c : α → α → Int} {x : α} (hk : OrdT c)
include hk
theorem JG : ∀ {l : List α}, (∀ w ∈ l, c x w < 0) → zh c x l = x :: l
 | [], _ => rfl
 | a :: l, h => kf hk (h a (by simp))
theorem xP {p : α → Bool} (hp : ∀ a b, c a b = 0 → p a = p b) : ∀ {l : List α}, l.Pairwise (fun a b => c a b < 0) → (zh c x l).filter p = if p x = true then zh c x (l.filter p) else l.filter p
 | [], _ => by
  by_cases h : p x = true <;> simp [zh, h]
 | a :: l, hw => by
  obtain ⟨w1, w2⟩ := List.pairwise_cons.1 hw
  have ih := xP (p := p) hp w2
  rcases hk.tot a x with h | h | h
  ·rw [xO hk h]
   by_cases ha : p a = true
   ·rw [List.filter_cons_of_pos ha, List.filter_cons_of_pos ha, ih, xO hk h]
    split <;> rfl
   ·rw [List.filter_cons_of_neg ha, List.filter_cons_of_neg ha, ih]
  ·rw [JL hk h]
   have e := hp a x h
   by_cases hx : p x = true
   ·rw [if_pos hx, List.filter_cons_of_pos hx, List.filter_cons_of_pos (by rw [e]; exact hx), JL hk h]
   ·rw [if_neg hx, List.filter_cons_of_neg hx, List.filter_cons_of_neg (by rw [e]; exact hx)]
  ·rw [kf hk h]
   by_cases hx : p x = true
   ·rw [if_pos hx, List.filter_cons_of_pos hx]
    by_cases ha : p a = true
    ·rw [List.filter_cons_of_pos ha, kf hk h]
    ·rw [List.filter_cons_of_neg ha]
     exact (JG hk fun w hw' => hk.lt x a w h (w1 w (List.mem_filter.1 hw').1)).symm
   ·rw [if_neg hx, List.filter_cons_of_neg hx]
theorem wE {p : α → Bool} (hp : ∀ a b, c a b = 0 → p a = p b) : ∀ {xs l : List α}, l.Pairwise (fun a b => c a b < 0) → (z5 c xs l).filter p = z5 c (xs.filter p) (l.filter p)
 | [], l, _ => rfl
 | x :: xs, l, h => by
  have ih := wE hp (xs := xs) (v8 hk (x := x) h)
  show (z5 c xs (zh c x l)).filter p = _
  rw [ih, xP hk hp h]
  by_cases hx : p x = true
  ·rw [if_pos hx, List.filter_cons_of_pos hx]; rfl
  ·rw [if_neg hx, List.filter_cons_of_neg hx]
theorem wU {w : α} : ∀ {l : List α}, (∀ a ∈ l, c a x ≠ 0) → (w ∈ zh c x l ↔ w = x ∨ w ∈ l)
 | [], _ => by simp [zh]
 | a :: l, h => by
  rcases hk.tot a x with g | g | g
  ·rw [xO hk g, List.mem_cons, wU (fun b hb => h b (by simp [hb])), List.mem_cons]
   constructor
   ·rintro (q | q | q)
    ·exact .inr (.inl q)
    ·exact .inl q
    ·exact .inr (.inr q)
   ·rintro (q | q | q)
    ·exact .inr (.inl q)
    ·exact .inl q
    ·exact .inr (.inr q)
  ·exact absurd g (h a (by simp))
  ·rw [kf hk g]; simp
theorem Zx : ∀ {l : List α}, (∀ a ∈ l, c a x ≠ 0) → (zh c x l).length = l.length + 1
 | [], _ => rfl
 | a :: l, h => by
  rcases hk.tot a x with g | g | g
  ·rw [xO hk g, List.length_cons, Zx fun b hb => h b (by simp [hb])]; rfl
  ·exact absurd g (h a (by simp))
  ·rw [kf hk g]; rfl
theorem Js : ∀ {xs l : List α}, xs.Pairwise (fun a b => c a b ≠ 0) → (∀ a ∈ l, ∀ b ∈ xs, c a b ≠ 0) → (z5 c xs l).length = l.length + xs.length ∧ ∀ w, w ∈ z5 c xs l ↔ w ∈ l ∨ w ∈ xs
 | [], l, _, _ => by simp [z5]
 | x :: xs, l, h, hd => by
  obtain ⟨h1, h2⟩ := List.pairwise_cons.1 h
  have hlx : ∀ a ∈ l, c a x ≠ 0 := fun a ha => hd a ha x (by simp)
  have ih := Js (xs := xs) (l := zh c x l) h2 (fun a ha b hb => by
   rcases (wU hk hlx).1 ha with rfl | g
   ·exact h1 b hb
   ·exact hd a g b (by simp [hb]))
  refine ⟨?_, fun w => ?_⟩
  ·show (z5 c xs (zh c x l)).length = _
   rw [ih.1, Zx hk hlx]; simp; omega
  ·show w ∈ z5 c xs (zh c x l) ↔ _
   rw [ih.2, wU hk hlx, List.mem_cons]
   constructor
   ·rintro ((q | q) | q)
    ·exact .inr (.inl q)
    ·exact .inl q
    ·exact .inr (.inr q)
   ·rintro (q | q | q)
    ·exact .inl (.inr q)
    ·exact .inl (.inl q)
    ·exact .inr q
end
theorem ZW (t : Int) : ∀ {l : List Ev} {a : Ev}, (∀ y ∈ l, y.kind = 3 → errR y.value = 0) → errR a.value = 0 → errR (l.foldl (fixS t) a).value = 0
 | [], a, _, h => h
 | y :: l, a, hl, h => by
  simp only [List.foldl_cons]
  refine ZW t (fun z hz => hl z (by simp [hz])) ?_
  unfold fixS
  split
  ·rename_i g; exact hl y (by simp) g.2
  ·split <;> exact h
theorem vL {e : Ev} (hv : e.valid = true) : (e.kind = 1 → okF e.fx = true) ∧ (e.kind = 2 → okC e.ch = true) ∧ (e.kind = 3 → errR e.value = 0) := by
 unfold Ev.valid at hv
 simp only [Bool.and_eq_true] at hv
 have hv := hv.2
 refine ⟨fun g => ?_, fun g => ?_, fun g => ?_⟩
 ·rw [if_pos g] at hv
  simp only [Bool.and_eq_true] at hv
  obtain ⟨⟨⟨⟨⟨h1, h2⟩, h3⟩, _⟩, _⟩, _⟩ := hv
  unfold okF Ev.fx
  simp only
  rw [h1, h2, h3]; rfl
 ·rw [if_neg (by omega), if_pos g] at hv
  simp only [Bool.and_eq_true] at hv
  obtain ⟨⟨⟨⟨h1, h2⟩, h3⟩, _⟩, _⟩ := hv
  unfold okC Ev.ch
  simp only
  rw [h1, h2, h3]; rfl
 ·rw [if_neg (by omega), if_neg (by omega)] at hv
  simp only [Bool.and_eq_true] at hv
  have hv := hv.2
  rw [if_pos g] at hv
  simp only [Bool.and_eq_true] at hv
  exact of_decide_eq_true hv.1
theorem YL {l : List Ev} {s : SS} (I : Inv l s) : ∀ x ∈ s.lat, Uu x := by
 intro x hx
 obtain ⟨i, hi, rfl⟩ := List.mem_iff_getElem.1 hx
 have hil : i < l.length := by have := I.ok.len; rw [I.evs] at this; omega
 have h := I.lat i hil
 rw [zR hi] at h
 rw [h]
 by_cases hk : (latF l i).kind = 0
 ·exact .inl hk
 ·obtain ⟨q1, q2, q3⟩ := kI hk
  have hv := I.val i hil
  have hvf := vL hv
  have hkey := qO l (l.getD i Ev.nil)
  have hval : (l.getD i Ev.nil).kind = 1 → errR (vP l (l.getD i Ev.nil)).value = 0 := fun g => by
   refine ZW _ (fun y hy hk3 => ?_) ?_
   ·obtain ⟨j, hj, rfl⟩ := List.mem_iff_getElem.1 hy
    have := I.val j hj
    rw [zR hj] at this
    exact (vL this).2.2 hk3
   ·have := hvf.1 g
    unfold okF at this
    simp only [Bool.and_eq_true] at this
    exact of_decide_eq_true this.2
  rw [q1]
  generalize vP l (l.getD i Ev.nil) = y at hkey hval ⊢
  generalize l.getD i Ev.nil = x at *
  obtain ⟨k1, k2⟩ := hkey
  simp only [Ev.key, List.cons.injEq, Sum.inl.injEq, Sum.inr.injEq, and_true] at k1
  obtain ⟨_, k3, k4, k5⟩ := k1
  rcases qb.1 q2 with g | g
  ·refine .inr (.inl ⟨by rw [k2, g], ?_⟩)
   have := hvf.1 g
   unfold okF Ev.fx at this ⊢
   simp only [Bool.and_eq_true] at this ⊢
   simp only [k4, k5]
   exact ⟨this.1, decide_eq_true (hval g)⟩
  ·refine .inr (.inr ⟨by rw [k2, g], ?_⟩)
   have := hvf.2.1 g
   unfold okC Ev.ch at this ⊢
   simp only [k3, k4, k5]
   exact this
theorem yY {l : List Ev} {tm : Int} {d : Option Int} {s : SS} (hv : (SS.play ⟨[], []⟩ l).isSome = true) (ht : ¬ (tm < 0 ∨ 1125899906842624 < tm)) (hs : SS.play ⟨[], []⟩ (l.take (cutE l tm)) = some s) :
  zw l tm d = ((z5 cmpF (zF d s.lat) [], z5 cmpC (zE d s.lat) []), 0) ∧ errE (z5 cmpF (zF d s.lat) []) (z5 cmpC (zE d s.lat) []) = 0 := by
 have I := (wv (l := l.take (cutE l tm))).2 s hs
 obtain ⟨a1, a2, a3⟩ := Ke hs
 have hlen := a1.len
 have := kq (d := d) (L := s.lat) (f := []) (c := []) (by decide) (YL I) (by simp; omega) (by simp; omega)
 unfold zw
 rw [if_neg (by rw [hv]; decide), if_neg ht, hs]
 exact this
end Go.Nov
end

/- A part of what is known. -/
section
namespace Go.Nov
theorem yX {α : Type} {l : List α} {p : α → Bool} {z : α} {i : Nat} (h : i < l.length) : (l.take (i + 1)).filter p = if p (l.getD i z) = true then (l.take i).filter p ++ [l.getD i z] else (l.take i).filter p := by
 rw [List.take_add_one, List.getElem?_eq_getElem h, zR h]
 simp only [Option.toList_some, List.filter_append, List.filter_cons, List.filter_nil]
 split <;> simp
theorem u7 {α : Type} {l : List α} {p : α → Bool} (i : Nat) : ((l.take i).filter p).length ≤ l.length := by
 have h1 := List.length_filter_le p (l.take i)
 have h2 := List.length_take_le' i l
 omega
theorem JK (l : List Ev) (tm : Int) (d : Option Int) : (∃ s, (SS.play ⟨[], []⟩ l).isSome = true ∧ ¬ (tm < 0 ∨ 1125899906842624 < tm) ∧ SS.play ⟨[], []⟩ (l.take (cutE l tm)) = some s) ∨ (∀ d', zw l tm d' = (([], []), 8)) ∨ ∀ d', zw l tm d' = (([], []), 2) := by
 cases hv : (SS.play ⟨[], []⟩ l).isSome with
 | false => exact .inr (.inl fun d' => by unfold zw; rw [if_pos hv])
 | true =>
  by_cases ht : tm < 0 ∨ 1125899906842624 < tm
  ·exact .inr (.inr fun d' => by unfold zw; rw [if_neg (by rw [hv]; decide), if_pos ht])
  ·obtain ⟨s, hs⟩ := Option.isSome_iff_exists.1 (QA hv (cutE l tm))
   exact .inl ⟨s, rfl, ht, hs⟩
end Go.Nov
end

/- A log into which what is known is entered at once. -/
section
namespace Go.Nov
structure Fits (F : List Fx) (C : List Ch) : Prop where
 okf : ∀ x ∈ F, okF x = true
 okc : ∀ x ∈ C, okC x = true
 prf : F.Pairwise fun a b => cmpF a b < 0
 prc : C.Pairwise fun a b => cmpC a b < 0
 len : F.length + C.length ≤ 100
end Go.Nov
namespace Go.Nov
theorem Ju {α : Type} {c : α → α → Int} {w : α} : ∀ {xs l : List α}, w ∈ z5 c xs l → w ∈ l ∨ w ∈ xs
 | [], l, h => .inl h
 | x :: xs, l, h => by
  rcases Ju (xs := xs) (l := zh c x l) h with g | g
  ·rcases j7 g with rfl | g
   ·exact .inr (by simp)
   ·exact .inl g
  ·exact .inr (by simp [g])
theorem Xk {l : List Ev} {tm : Int} (h : (zw l tm none).2 = 0) : ∃ s, SS.play ⟨[], []⟩ (l.take (cutE l tm)) = some s ∧ (∀ x ∈ (zw l tm none).1.1, ∃ e ∈ s.lat, x = e.fx) ∧ ∀ x ∈ (zw l tm none).1.2, ∃ e ∈ s.lat, x = e.ch := by
 rcases JK l tm none with ⟨s, h1, h2, h3⟩ | hk | hk
 ·obtain ⟨k1, k2⟩ := yY (d := none) h1 h2 h3
  rw [k1]
  refine ⟨s, h3, fun x hx => ?_, fun x hx => ?_⟩
  ·rcases Ju hx with g | g
   ·simp at g
   ·obtain ⟨e, he, rfl⟩ := List.mem_map.1 g
    exact ⟨e, (List.mem_filter.1 he).1, rfl⟩
  ·rcases Ju hx with g | g
   ·simp at g
   ·obtain ⟨e, he, rfl⟩ := List.mem_map.1 g
    exact ⟨e, (List.mem_filter.1 he).1, rfl⟩
 ·rw [hk] at h; cases h
 ·rw [hk] at h; cases h
end Go.Nov
end

/- What an event changes. -/
section
namespace Go.Nov
def woF (pa na : List UInt8) (d : Int) (x : Fx) : Bool := decide (pa ≠ []) || decide (x.name ≠ na) || decide (x.date ≠ d)
def woC (pa na : List UInt8) (d : Int) (x : Ch) : Bool := decide (pa = []) || decide (x.zb ≠ pa) || decide (x.name ≠ na) || decide (x.date ≠ d)
def qv (v : List Fx × List Ch) (pa na : List UInt8) (d : Int) : List Fx × List Ch := (v.1.filter (woF pa na d), v.2.filter (woC pa na d))
end Go.Nov
namespace Go.Nov
theorem JP {s : SS} (ho : s.ok) : s.lat.Pairwise fun x y => x.kind ≠ 0 → y.kind ≠ 0 → x.key ≠ y.key := by
 rw [List.pairwise_iff_getElem]
 intro i j hi hj hij h1 h2 h3
 have := ho.uniq i j hi hj (by rw [zR hi]; exact h1) (by rw [zR hj]; exact h2) (by rw [zR hi, zR hj]; exact h3)
 omega
theorem yS {α : Type} {R : α → α → Prop} {p : α → Bool} {l : List α} (h : l.Pairwise R) : (l.filter p).Pairwise fun a b => R a b ∧ p a = true ∧ p b = true := by
 induction h with
 | nil => exact List.Pairwise.nil
 | cons h1 _ ih =>
  rename_i a l _
  by_cases hp : p a = true
  ·rw [List.filter_cons_of_pos hp]
   exact List.Pairwise.cons (fun b hb => ⟨h1 b (List.mem_filter.1 hb).1, hp, (List.mem_filter.1 hb).2⟩) ih
  ·rw [List.filter_cons_of_neg hp]; exact ih
theorem Kw {s : SS} (ho : s.ok) (hv : ∀ x ∈ s.lat, x.kind = 1 → x.zb = []) : (zF none s.lat).Pairwise fun a b => cmpF a b ≠ 0 := by
 unfold zF
 rw [List.pairwise_map]
 have h := List.Pairwise.and_mem.1 (yS (p := fun x => decide (x.kind = 1) && vN none x) (JP ho))
 refine h.imp ?_
 rintro a b ⟨ha, hb, h1, h2, h3⟩
 simp only [vN, Bool.and_true, decide_eq_true_eq] at h2 h3
 intro g
 obtain ⟨g1, g2⟩ := qX.1 g
 refine h1 (by omega) (by omega) ?_
 unfold Ev.key
 have k1 := hv a (List.mem_filter.1 ha).1 h2
 have k2 := hv b (List.mem_filter.1 hb).1 h3
 simp only [Ev.fx] at g1 g2
 rw [h2, h3, k1, k2, g1, g2]
theorem Kr {s : SS} (ho : s.ok) : (zE none s.lat).Pairwise fun a b => cmpC a b ≠ 0 := by
 unfold zE
 rw [List.pairwise_map]
 refine (yS (p := fun x => decide (x.kind = 2) && vN none x) (JP ho)).imp ?_
 rintro a b ⟨h1, h2, h3⟩
 simp only [vN, Bool.and_true, decide_eq_true_eq] at h2 h3
 intro g
 obtain ⟨g0, g1, g2⟩ := qZ.1 g
 refine h1 (by omega) (by omega) ?_
 unfold Ev.key
 simp only [Ev.ch] at g0 g1 g2
 rw [h2, h3, g0, g1, g2]
theorem Q1 {l : List Ev} {s : SS} (I : Inv l s) : ∀ x ∈ s.lat, x.kind = 1 → x.zb = [] := by
 intro x hx hk
 obtain ⟨i, hi, rfl⟩ := List.mem_iff_getElem.1 hx
 have hil : i < l.length := by have := I.ok.len; rw [I.evs] at this; omega
 have h := I.lat i hil
 rw [zR hi] at h
 rw [h] at hk ⊢
 obtain ⟨q1, q2, q3⟩ := kI (by omega : (latF l i).kind ≠ 0)
 rw [q1] at hk ⊢
 have hkey := qO l (l.getD i Ev.nil)
 have hv := I.val i hil
 rw [hkey.2] at hk
 have k1 := hkey.1
 simp only [Ev.key, List.cons.injEq, Sum.inr.injEq] at k1
 rw [k1.2.1]
 unfold Ev.valid at hv
 simp only [Bool.and_eq_true] at hv
 have hv := hv.2
 rw [if_pos hk] at hv
 simp only [Bool.and_eq_true] at hv
 exact of_decide_eq_true hv.1.2
theorem xS (d : Option Int) (a b : List Ev) : zF d (a ++ b) = zF d a ++ zF d b := by simp [zF]
theorem xC (d : Option Int) (a b : List Ev) : zE d (a ++ b) = zE d a ++ zE d b := by simp [zE]
theorem Ji (x : Ev) : zF none [x] = if x.kind = 1 then [x.fx] else [] := by
 by_cases h : x.kind = 1 <;> simp [zF, List.filter_cons, vN, h]
theorem QG (x : Ev) : zE none [x] = if x.kind = 2 then [x.ch] else [] := by
 by_cases h : x.kind = 2 <;> simp [zE, List.filter_cons, vN, h]
theorem KN {L : List Ev} {i : Nat} (h : i < L.length) (y : Ev) : L = L.take i ++ [L.getD i Ev.nil] ++ L.drop (i + 1) ∧ L.set i y = L.take i ++ [y] ++ L.drop (i + 1) := by
 rw [zR h]
 constructor
 ·simp
 ·rw [List.set_eq_take_append_cons_drop, if_pos h]; simp
theorem vu {α : Type} (c : α → α → Int) (a b l : List α) : z5 c (a ++ b) l = z5 c b (z5 c a l) := by simp [z5, List.foldl_append]
theorem WA {a : List UInt8} {d : Int} : ∀ {xs l : List Fx}, (∀ x ∈ xs, ¬ (x.name = a ∧ x.date = d)) → jP (z5 cmpF xs l) a d = jP l a d
 | [], l, _ => rfl
 | x :: xs, l, h => by
  show jP (z5 cmpF xs (zh cmpF x l)) a d = _
  rw [WA fun y hy => h y (by simp [hy]), yW, if_neg (h x (by simp))]
theorem Zp {p a : List UInt8} {d : Int} : ∀ {xs l : List Ch}, (∀ x ∈ xs, ¬ (x.zb = p ∧ x.name = a ∧ x.date = d)) → qe (z5 cmpC xs l) p a d = qe l p a d
 | [], l, _ => rfl
 | x :: xs, l, h => by
  show qe (z5 cmpC xs (zh cmpC x l)) p a d = _
  rw [Zp fun y hy => h y (by simp [hy]), kU, if_neg (h x (by simp))]
theorem ZT {l : List Ev} {s : SS} (hs : SS.play ⟨[], []⟩ l = some s) : zw l 1125899906842624 none = ((z5 cmpF (zF none s.lat) [], z5 cmpC (zE none s.lat) []), 0) ∧ errE (z5 cmpF (zF none s.lat) []) (z5 cmpC (zE none s.lat) []) = 0 := by
 have I := (wv (l := l)).2 s hs
 have hc : l.take (cutE l 1125899906842624) = l := by
  have : cutE l 1125899906842624 = l.length := by
   unfold cutE
   refine List.findIdx_eq_length.2 fun x hx => ?_
   obtain ⟨j, hj, rfl⟩ := List.mem_iff_getElem.1 hx
   have := I.val j hj
   rw [zR hj] at this
   unfold Ev.valid at this
   simp only [Bool.and_eq_true, inB, decide_eq_true_eq] at this
   exact decide_eq_false (by omega)
  rw [this, List.take_length]
 exact yY (by rw [hs]; rfl) (by omega) (by rw [hc]; exact hs)
end Go.Nov
namespace Go.Nov
def keyed (pa na : List UInt8) (d : Int) (z : Ev) : Prop := z.kind = 0 ∨ (z.kind = 1 ∧ pa = [] ∧ z.name = na ∧ z.date = d) ∨ (z.kind = 2 ∧ pa ≠ [] ∧ z.zb = pa ∧ z.name = na ∧ z.date = d)
theorem Kd {pa na : List UInt8} {d : Int} (a b : Fx) (h : cmpF a b = 0) : woF pa na d a = woF pa na d b := by
 obtain ⟨h1, h2⟩ := qX.1 h
 unfold woF; rw [h1, h2]
theorem Kf {pa na : List UInt8} {d : Int} (a b : Ch) (h : cmpC a b = 0) : woC pa na d a = woC pa na d b := by
 obtain ⟨h0, h1, h2⟩ := qZ.1 h
 unfold woC; rw [h0, h1, h2]
theorem QF {pa na : List UInt8} {d : Int} {z : Ev} (h : keyed pa na d z) : (zF none [z]).filter (woF pa na d) = [] ∧ (zE none [z]).filter (woC pa na d) = [] := by
 rw [Ji, QG]
 rcases h with h | ⟨h, h1, h2, h3⟩ | ⟨h, h1, h2, h3, h4⟩
 ·rw [if_neg (by omega), if_neg (by omega)]; exact ⟨rfl, rfl⟩
 ·rw [if_pos h, if_neg (by omega)]
  simp [woF, Ev.fx, h1, h2, h3]
 ·rw [if_neg (by omega), if_pos h]
  simp [woC, Ev.ch, h1, h2, h3, h4]
theorem U1 {pa na : List UInt8} {d : Int} {A B : List Ev} {x y : Ev} (hx : keyed pa na d x) (hy : keyed pa na d y) :
  qv (z5 cmpF (zF none (A ++ [x] ++ B)) [], z5 cmpC (zE none (A ++ [x] ++ B)) []) pa na d = qv (z5 cmpF (zF none (A ++ [y] ++ B)) [], z5 cmpC (zE none (A ++ [y] ++ B)) []) pa na d := by
 unfold qv
 simp only
 rw [wE yx Kd List.Pairwise.nil, wE yx Kd List.Pairwise.nil, wE yv Kf List.Pairwise.nil, wE yv Kf List.Pairwise.nil]
 simp only [xS, xC, List.filter_append]
 rw [(QF hx).1, (QF hx).2, (QF hy).1, (QF hy).2]
theorem Qy {A B : List Ev} {y : Ev} (hk : y.kind = 1) (hd : (zF none (A ++ [y] ++ B)).Pairwise fun a b => cmpF a b ≠ 0) : jP (z5 cmpF (zF none (A ++ [y] ++ B)) []) y.name y.date = (y.value, true) := by
 simp only [xS] at hd ⊢
 rw [Ji, if_pos hk] at hd ⊢
 have h2 := (List.pairwise_append.1 hd).2.2
 rw [vu, WA fun z hz => ?_, vu]
 ·show jP (zh cmpF y.fx _) y.name y.date = _
  rw [yW, if_pos ⟨rfl, rfl⟩]; rfl
 ·rintro ⟨g1, g2⟩
  exact h2 y.fx (by simp) z hz (qX.2 ⟨g1.symm, g2.symm⟩)
theorem uc {A B : List Ev} {y : Ev} (hk : y.kind = 2) (hd : (zE none (A ++ [y] ++ B)).Pairwise fun a b => cmpC a b ≠ 0) : qe (z5 cmpC (zE none (A ++ [y] ++ B)) []) y.zb y.name y.date = y.first := by
 simp only [xC] at hd ⊢
 rw [QG, if_pos hk] at hd ⊢
 have h2 := (List.pairwise_append.1 hd).2.2
 rw [vu, Zp fun z hz => ?_, vu]
 ·show qe (zh cmpC y.ch _) y.zb y.name y.date = _
  rw [kU, if_pos ⟨rfl, rfl, rfl⟩]; rfl
 ·rintro ⟨g0, g1, g2⟩
  exact h2 y.ch (by simp) z hz (qZ.2 ⟨g0.symm, g1.symm, g2.symm⟩)
def oneN (x : Ev) : Nat := if x.kind = 1 ∨ x.kind = 2 then 1 else 0
theorem JX {A B : List Ev} {y : Ev} (hf : (zF none (A ++ [y] ++ B)).Pairwise fun a b => cmpF a b ≠ 0) (hc : (zE none (A ++ [y] ++ B)).Pairwise fun a b => cmpC a b ≠ 0) :
  (z5 cmpF (zF none (A ++ [y] ++ B)) []).length + (z5 cmpC (zE none (A ++ [y] ++ B)) []).length = (zF none A).length + (zE none A).length + oneN y + ((zF none B).length + (zE none B).length) := by
 rw [(Js yx hf (by simp)).1, (Js yv hc (by simp)).1]
 simp only [xS, xC, List.length_append, Ji, QG, oneN, List.length_nil]
 by_cases h1 : y.kind = 1
 ·rw [if_pos h1, if_neg (by omega), if_pos (.inl h1)]; simp; omega
 ·by_cases h2 : y.kind = 2
  ·rw [if_neg h1, if_pos h2, if_pos (.inr h2)]; simp; omega
  ·rw [if_neg h1, if_neg h2, if_neg (by omega)]; simp; omega
def zo (l : List Ev) (e : Ev) : Ev := if 0 < e.target then l.getD (e.target.toNat - 1) Ev.nil else e
theorem KM {l : List Ev} {s : SS} (I : Inv l s) {e : Ev} (h : s.errA e = 0) : ∃ A B x y, zF none s.lat = zF none (A ++ [x] ++ B) ∧ zE none s.lat = zE none (A ++ [x] ++ B) ∧ zF none (s.add e).lat = zF none (A ++ [y] ++ B) ∧ zE none (s.add e).lat = zE none (A ++ [y] ++ B) ∧
  keyed (zo l e).zb (zo l e).name (zo l e).date x ∧ keyed (zo l e).zb (zo l e).name (zo l e).date y ∧
  (e.kind = 1 → x.kind = 0 ∧ y.kind = 1 ∧ y.name = (zo l e).name ∧ y.date = (zo l e).date ∧ y.value = e.value) ∧
  (e.kind = 2 → x.kind = 0 ∧ y.kind = 2 ∧ y.zb = (zo l e).zb ∧ y.name = (zo l e).name ∧ y.date = (zo l e).date ∧ y.first = e.first) ∧
  (e.kind = 3 → x.kind = 1 ∧ y.kind = 1 ∧ y.name = (zo l e).name ∧ y.date = (zo l e).date ∧ y.value = e.value) ∧
  (e.kind = 4 → x.kind = 2 ∧ y.kind = 2 ∧ y.zb = (zo l e).zb ∧ y.name = (zo l e).name ∧ y.date = (zo l e).date ∧ y.first = e.first) ∧
  (e.kind = 5 → (x.kind = 1 ∨ x.kind = 2) ∧ y.kind = 0) ∧ (e.kind = 1 ∨ e.kind = 2 ∨ e.kind = 3 ∨ e.kind = 4 ∨ e.kind = 5) := by
 have hlen := I.ok.len
 rw [I.evs] at hlen
 have h0 := h
 unfold SS.errA at h
 rw [I.evs] at h
 split at h
 ·cases h
 rename_i h1
 split at h
 ·cases h
 split at h
 ·cases h
 have hv : e.valid = true := by
  cases hv : e.valid
  ·exact absurd (.inl hv) h1
  ·rfl
 have hvf := vL hv
 have e1 : zF none [Ev.nil] = [] := rfl
 have e2 : zE none [Ev.nil] = [] := rfl
 by_cases ht : 0 < e.target
 ·rw [if_pos ht] at h
  have hf : e.fact = false := by
   cases hf : e.fact with
   | false => rfl
   | true => exact absurd ht ((qI hv).1 hf)
  have hek := wQ hv hf
  have hfa : zo l e = l.getD (e.target.toNat - 1) Ev.nil := if_pos ht
  unfold SS.errC at h
  split at h
  ·cases h
  rename_i h6
  rw [not_or] at h6
  have hi : e.target.toNat - 1 < s.lat.length := by omega
  have hil : e.target.toNat - 1 < l.length := by omega
  have hx : s.fact e = latF l (e.target.toNat - 1) := I.lat _ hil
  have hk := h6.2
  rw [hx] at hk
  obtain ⟨q1, q2, q3⟩ := kI hk
  have hkey := qO l (l.getD (e.target.toNat - 1) Ev.nil)
  rw [← q1, ← hx] at hkey
  have hvl := I.val _ hil
  rw [← hfa] at hkey q2 hvl
  obtain ⟨k1, k2⟩ := hkey
  simp only [Ev.key, List.cons.injEq, Sum.inl.injEq, Sum.inr.injEq, and_true] at k1
  obtain ⟨_, k3, k4, k5⟩ := k1
  have hlat : (s.add e).lat = s.lat.set (e.target.toNat - 1) (s.fixed e) ++ [Ev.nil] := by
   unfold SS.add
   rw [if_neg (by simpa using h0), if_pos ht]
   simp only
   unfold SS.cor
   rw [if_pos (by unfold SS.errC; rw [if_neg (by rw [not_or]; exact h6)]; exact h)]
  have hsp := KN hi (s.fixed e)
  have hgx : s.lat.getD (e.target.toNat - 1) Ev.nil = s.fact e := rfl
  rw [hgx] at hsp
  refine ⟨s.lat.take (e.target.toNat - 1), s.lat.drop (e.target.toNat - 1 + 1), s.fact e, s.fixed e, by rw [← hsp.1], by rw [← hsp.1], by rw [hlat, xS, e1, List.append_nil, hsp.2], by rw [hlat, xC, e2, List.append_nil, hsp.2], ?_⟩
  have hkx : keyed (zo l e).zb (zo l e).name (zo l e).date (s.fact e) := by
   rcases qb.1 q2 with g | g
   ·refine .inr (.inl ⟨by rw [k2, g], ?_, k4, k5⟩)
    unfold Ev.valid at hvl
    simp only [Bool.and_eq_true] at hvl
    have hvl := hvl.2
    rw [if_pos g] at hvl
    simp only [Bool.and_eq_true] at hvl
    exact of_decide_eq_true hvl.1.2
   ·refine .inr (.inr ⟨by rw [k2, g], ?_, k3, k4, k5⟩)
    have := (vL hvl).2.1 g
    unfold okC Ev.ch zI at this
    simp only [Bool.and_eq_true, decide_eq_true_eq] at this
    intro q
    rw [q] at this
    simp at this
  have hk12 := qb.1 q2
  rw [← k2] at hk12
  by_cases h5 : e.kind = 5
  ·have hfx : s.fixed e = Ev.nil := if_pos h5
   rw [hfx]
   exact ⟨hkx, .inl rfl, fun g => by omega, fun g => by omega, fun g => by omega, fun g => by omega, fun _ => ⟨hk12, rfl⟩, by omega⟩
  ·rw [if_neg h5] at h
   have hfx : s.fixed e = { s.fact e with value := e.value, first := e.first } := if_neg h5
   rw [hfx]
   refine ⟨hkx, hkx, fun g => by omega, fun g => by omega, fun g => ?_, fun g => ?_, fun g => absurd g h5, by omega⟩
   ·have : (s.fact e).kind = 1 := by
     rcases hk12 with q | q
     ·exact q
     ·rw [g, q] at h; exact absurd h (by decide)
    exact ⟨this, this, k4, k5, rfl⟩
   ·have : (s.fact e).kind = 2 := by
     rcases hk12 with q | q
     ·rw [g, q] at h; exact absurd h (by decide)
     ·exact q
    exact ⟨this, this, k3, k4, k5, rfl⟩
 ·rw [if_neg ht] at h
  have hf : e.fact = true := (qI hv).2 ht
  have hfa : zo l e = e := if_neg ht
  rw [hfa]
  have hlat : (s.add e).lat = s.lat ++ [e] := by
   unfold SS.add
   rw [if_neg (by simpa using h0), if_neg ht]
  refine ⟨s.lat, [], Ev.nil, e, by rw [List.append_nil, xS, e1, List.append_nil], by rw [List.append_nil, xC, e2, List.append_nil], by rw [hlat, List.append_nil], by rw [hlat, List.append_nil], .inl rfl, ?_, ?_⟩
  ·rcases qb.1 hf with g | g
   ·refine .inr (.inl ⟨g, ?_, rfl, rfl⟩)
    unfold Ev.valid at hv
    simp only [Bool.and_eq_true] at hv
    have hv := hv.2
    rw [if_pos g] at hv
    simp only [Bool.and_eq_true] at hv
    exact of_decide_eq_true hv.1.2
   ·refine .inr (.inr ⟨g, ?_, rfl, rfl, rfl⟩)
    have := hvf.2.1 g
    unfold okC Ev.ch zI at this
    simp only [Bool.and_eq_true, decide_eq_true_eq] at this
    intro q
    rw [q] at this
    simp at this
  ·have := qb.1 hf
   exact ⟨fun g => ⟨rfl, g, rfl, rfl, rfl⟩, fun g => ⟨rfl, g, rfl, rfl, rfl, rfl⟩, fun g => by omega, fun g => by omega, fun g => by omega, by omega⟩
end Go.Nov
namespace Go.Nov
theorem on0 {x : Ev} (h : x.kind = 0) : oneN x = 0 := by unfold oneN; rw [if_neg (by omega)]
theorem on1 {x : Ev} (h : x.kind = 1 ∨ x.kind = 2) : oneN x = 1 := if_pos h
theorem za1 {l : List Ev} {e : Ev} (h : (appS l e).2 = 0) : ∃ a b : EnvL, zw l 1125899906842624 none = (a, 0) ∧ zw (l ++ [e]) 1125899906842624 none = (b, 0) ∧ errE b.1 b.2 = 0 ∧ qv a (zo l e).zb (zo l e).name (zo l e).date = qv b (zo l e).zb (zo l e).name (zo l e).date ∧
  (e.kind = 1 → jP b.1 (zo l e).name (zo l e).date = (e.value, true) ∧ b.1.length + b.2.length = a.1.length + a.2.length + 1) ∧
  (e.kind = 2 → qe b.2 (zo l e).zb (zo l e).name (zo l e).date = e.first ∧ b.1.length + b.2.length = a.1.length + a.2.length + 1) ∧
  (e.kind = 3 → jP b.1 (zo l e).name (zo l e).date = (e.value, true) ∧ b.1.length + b.2.length = a.1.length + a.2.length) ∧
  (e.kind = 4 → qe b.2 (zo l e).zb (zo l e).name (zo l e).date = e.first ∧ b.1.length + b.2.length = a.1.length + a.2.length) ∧
  (e.kind = 5 → b.1.length + b.2.length + 1 = a.1.length + a.2.length) ∧ (e.kind = 1 ∨ e.kind = 2 ∨ e.kind = 3 ∨ e.kind = 4 ∨ e.kind = 5) := by
 obtain ⟨s, p1, p2, p3, p4⟩ := Y2 h
 have I := (wv (l := l)).2 s p1
 have I2 := (wv (l := l ++ [e])).2 _ p4
 have ka := ZT p1
 have kb := ZT p4
 have da := Kw I.ok (Q1 I)
 have db := Kw I2.ok (Q1 I2)
 have ca := Kr I.ok
 have cb := Kr I2.ok
 obtain ⟨A, B, x, y, h1, h2, h3, h4, h5, h6, h7, h8, h9, h10, h11, h12⟩ := KM I p2
 rw [h1] at da
 rw [h2] at ca
 rw [h3] at db
 rw [h4] at cb
 rw [h1, h2] at ka
 rw [h3, h4] at kb
 have la := JX da ca
 have lb := JX db cb
 refine ⟨_, _, ka.1, kb.1, kb.2, U1 h5 h6, fun g => ?_, fun g => ?_, fun g => ?_, fun g => ?_, fun g => ?_, h12⟩
 ·obtain ⟨k0, k1, k2, k3, k4⟩ := h7 g
  rw [on0 k0] at la
  rw [on1 (.inl k1)] at lb
  refine ⟨by rw [← k2, ← k3, ← k4]; exact Qy k1 db, ?_⟩
  simp only
  omega
 ·obtain ⟨k0, k1, k2, k3, k4, k5⟩ := h8 g
  rw [on0 k0] at la
  rw [on1 (.inr k1)] at lb
  refine ⟨by rw [← k2, ← k3, ← k4, ← k5]; exact uc k1 cb, ?_⟩
  simp only
  omega
 ·obtain ⟨k0, k1, k2, k3, k4⟩ := h9 g
  rw [on1 (.inl k0)] at la
  rw [on1 (.inl k1)] at lb
  refine ⟨by rw [← k2, ← k3, ← k4]; exact Qy k1 db, ?_⟩
  simp only
  omega
 ·obtain ⟨k0, k1, k2, k3, k4, k5⟩ := h10 g
  rw [on1 (.inr k0)] at la
  rw [on1 (.inr k1)] at lb
  refine ⟨by rw [← k2, ← k3, ← k4, ← k5]; exact uc k1 cb, ?_⟩
  simp only
  omega
 ·obtain ⟨k0, k1⟩ := h11 g
  rw [on1 k0] at la
  rw [on0 k1] at lb
  simp only
  omega
end Go.Nov
end

/- The law of StoreNow holds of the code. -/
section
set_option maxRecDepth 100000
open Go Go.Sx Go.Proofs Go.Nov
namespace Go.Proofs.Try
attribute [local simp] eqKV eqA eqA0 eqH eqB eqL eqL0
noncomputable def K22 : List Go.Sx.Item := [.code (Try.f22.body.getD .skip)]
theorem JT {l : List Ev} {tm : Int} (hP : evP l) (h : (zw l tm none).2 = 0) : (∀ x ∈ (zw l tm none).1.1, jb x) ∧ ∀ x ∈ (zw l tm none).1.2, je x := by
 obtain ⟨s, h1, h2, h3⟩ := Xk h
 have hs : jY s.lat := xd (s := ⟨[], []⟩) (fun e he => by simp at he) (fun e he => hP.2 e (List.mem_of_mem_take he)) h1
 refine ⟨fun x hx => ?_, fun x hx => ?_⟩
 ·obtain ⟨e, he, rfl⟩ := h2 x hx
  exact (hs e he).2
 ·obtain ⟨e, he, rfl⟩ := h3 x hx
  exact ⟨(hs e he).1, (hs e he).2.1⟩
def Zj : Ctr := ctrP true (fun p : (List Fx × List Ch) × List UInt8 × List UInt8 × Int => [envA p.1.1 p.1.2, .str p.2.1, .str p.2.2.1, .int .i64 p.2.2.2]) (fun p => lenE p.1) (fun p r => r = qv p.1 p.2.1 p.2.2.1 p.2.2.2) (fun _ (r : List Fx × List Ch) => (envA r.1 r.2, []))
def SWo (pa na : List UInt8) (d : Int) (i : Nat) : KV := [(1, .str pa), (2, .str na), (3, .int .i64 d), (4, .ptr 0 0), (8, .ptr 1 0), (9, .ptr 2 0), (10, .int .i64 i), (12, .undef), (29, .undef), (30, .undef), (31, .undef), (32, .undef), (35, .undef), (36, .undef), (37, .undef), (38, .undef), (61, .undef), (62, .undef), (63, .undef), (64, .undef), (67, .undef), (68, .undef), (69, .undef), (70, .undef), (73, .undef), (74, .undef), (75, .undef), (76, .undef)]
def SWp (pa na : List UInt8) (d : Int) (i : Nat) : KV := [(1, .str pa), (2, .str na), (3, .int .i64 d), (4, .ptr 0 0), (8, .ptr 1 0), (9, .ptr 2 0), (10, .undef), (12, .int .i64 i), (29, .undef), (30, .undef), (31, .undef), (32, .undef), (35, .undef), (36, .undef), (37, .undef), (38, .undef), (61, .undef), (62, .undef), (63, .undef), (64, .undef), (67, .undef), (68, .undef), (69, .undef), (70, .undef), (73, .undef), (74, .undef), (75, .undef), (76, .undef)]
def HWo (F : List Fx) (C : List Ch) (f : List Fx) (c : List Ch) : Heap := [.box [fxS F, chS C], .box [.nils, .nils], .box [.osl 3 3 0 f.length, .osl 4 4 0 c.length], .arr f.length 3 (fxG f), .arr c.length 4 (chG c)]
theorem J3 {O : Nat → Prop} {w0 : World} {Q : AV × Heap → Prop} (F : List Fx) (C : List Ch) (pa na : List UInt8) (d : Int) (lF : F.length ≤ 1000) (lC : C.length ≤ 1000) (hq : Q (envA (F.filter (woF pa na d)) (C.filter (woC pa na d)), [])) :
  zc Try.prog Try.f22 O 0 w0 [] (fun _ _ _ => False) (RetR Zj 0 Q) (.code (.loop (lps K22 0).1) :: (lps K22 0).2) (mk Try.f22.ntmps (SWo pa na d 0) (HWo F C [] [])) := by
 refine zc.loop (ι := {i : Nat // i ≤ F.length}) (fun i => SWo pa na d i.1) (fun i => HWo F C ((F.take i.1).filter (woF pa na d)) []) (fun i => F.length - i.1) ⟨0, Nat.zero_le _⟩ 0 ?_ ?_ (by kernel_rfl)
 ·exact ⟨by simp [SWo], by simp [HWo, fxS, chS, za], by kernel_rfl, Nat.zero_le _⟩
 ·rintro ⟨i, hil⟩
  obtain ⟨f, hf⟩ : ∃ f, f = (F.take i).filter (woF pa na d) := ⟨_, rfl⟩
  have hfl : f.length ≤ F.length := by rw [hf]; exact u7 i
  simp only [← hf]
  refine zc.run hmix z7 [1, 2, 3, 4, 8, 9, 10, 12, 29, 30, 31, 32, 35, 36, 37, 38, 61, 62, 63, 64, 67, 68, 69, 70, 73, 74, 75, 76] 400 (T := .ite (decide ((↑i : Int) < (↑(List.length F) : Int))) (.side ((0 : Int) ≤ i ∧ (↑i : Int) < (↑(List.length F) : Int)) (.ite (bif bif !decide (pa = Array.toList #[]) then true else !decide (Fx.name (List.getD F (Int.toNat (↑i : Int)) Fx.nil) = na) then true else !decide (Fx.date (List.getD F (Int.toNat (↑i : Int)) Fx.nil) = d)) (.side (0 = 0 ∧ f.length ≤ f.length ∧ (f.length + 1) * 40 ≤ 140737488355328) (.side (inR .i64 ((↑i : Int) + (1 : Int))) (.leaf (.back 0 [(1, .str pa), (2, .str na), (3, .int .i64 d), (4, .ptr 0 0), (8, .ptr 1 0), (9, .ptr 2 0), (10, .int .i64 ((↑i : Int) + (1 : Int))), (12, .undef), (29, .undef), (30, .undef), (31, .undef), (32, .undef), (35, .undef), (36, .undef), (37, .undef), (38, .undef), (61, .undef), (62, .undef), (63, .undef), (64, .undef), (67, .undef), (68, .undef), (69, .undef), (70, .undef), (73, .undef), (74, .undef), (75, .undef), (76, .undef)] [.box [.sl (List.length F) 3 (fxG F), .sl (List.length C) 4 (chG C)], .box [.nils, .nils], .box [.osl 3 3 0 (f.length + 1), .osl 4 4 0 0], .arr (f.length + 1) 3 (appG f.length (fxG f) (zg (zf 3 [.str (Fx.name (List.getD F (Int.toNat (↑i : Int)) Fx.nil)), .int .i64 (Fx.date (List.getD F (Int.toNat (↑i : Int)) Fx.nil)), .str (Fx.value (List.getD F (Int.toNat (↑i : Int)) Fx.nil))]) 0)), .arr 0 4 (chG []), .box [.str (Fx.name (List.getD F (Int.toNat (↑i : Int)) Fx.nil)), .int .i64 (Fx.date (List.getD F (Int.toNat (↑i : Int)) Fx.nil)), .str (Fx.value (List.getD F (Int.toNat (↑i : Int)) Fx.nil))], .arr 1 3 (zf 3 [.str (Fx.name (List.getD F (Int.toNat (↑i : Int)) Fx.nil)), .int .i64 (Fx.date (List.getD F (Int.toNat (↑i : Int)) Fx.nil)), .str (Fx.value (List.getD F (Int.toNat (↑i : Int)) Fx.nil))])])))) (.side (inR .i64 ((↑i : Int) + (1 : Int))) (.leaf (.back 0 [(1, .str pa), (2, .str na), (3, .int .i64 d), (4, .ptr 0 0), (8, .ptr 1 0), (9, .ptr 2 0), (10, .int .i64 ((↑i : Int) + (1 : Int))), (12, .undef), (29, .undef), (30, .undef), (31, .undef), (32, .undef), (35, .undef), (36, .undef), (37, .undef), (38, .undef), (61, .undef), (62, .undef), (63, .undef), (64, .undef), (67, .undef), (68, .undef), (69, .undef), (70, .undef), (73, .undef), (74, .undef), (75, .undef), (76, .undef)] [.box [.sl (List.length F) 3 (fxG F), .sl (List.length C) 4 (chG C)], .box [.nils, .nils], .box [.osl 3 3 0 f.length, .osl 4 4 0 0], .arr f.length 3 (fxG f), .arr 0 4 (chG []), .box [.str (Fx.name (List.getD F (Int.toNat (↑i : Int)) Fx.nil)), .int .i64 (Fx.date (List.getD F (Int.toNat (↑i : Int)) Fx.nil)), .str (Fx.value (List.getD F (Int.toNat (↑i : Int)) Fx.nil))]]))))) (.leaf (.loop (Prod.fst (lps (inside K22 0) 0)) (Prod.snd (lps (inside K22 0) 0)) [(1, .str pa), (2, .str na), (3, .int .i64 d), (4, .ptr 0 0), (8, .ptr 1 0), (9, .ptr 2 0), (10, .int .i64 i), (12, .int .i64 0), (29, .undef), (30, .undef), (31, .undef), (32, .undef), (35, .undef), (36, .undef), (37, .undef), (38, .undef), (61, .undef), (62, .undef), (63, .undef), (64, .undef), (67, .undef), (68, .undef), (69, .undef), (70, .undef), (73, .undef), (74, .undef), (75, .undef), (76, .undef)] [.box [.sl (List.length F) 3 (fxG F), .sl (List.length C) 4 (chG C)], .box [.nils, .nils], .box [.osl 3 3 0 f.length, .osl 4 4 0 0], .arr f.length 3 (fxG f), .arr 0 4 (chG [])]))) (by kernel_rfl) ?_
  simp only [Tree.holds, ze, inR, lo, hi, Int.toNat_natCast, Nat.zero_add]
  simp only [bifO]
  refine ⟨fun h => ?_, fun h => ?_⟩
  ·have hlt : i < F.length := by have := of_decide_eq_true h; omega
   have ht := yX (p := woF pa na d) (z := Fx.nil) hlt
   have tw : (!decide (pa = []) || !decide ((F.getD i Fx.nil).name = na) || !decide ((F.getD i Fx.nil).date = d)) = woF pa na d (F.getD i Fx.nil) := by simp only [woF, ne_eq, decide_not]
   refine ⟨by omega, fun _ => ⟨fun g => ⟨⟨trivial, Nat.le_refl _, by omega⟩, fun _ => ⟨by omega, fun _ => ?_⟩⟩, fun g => ⟨by omega, fun _ => ?_⟩⟩⟩
   ·rw [if_pos trivial]
    rw [tw] at g
    rw [if_pos g, ← hf] at ht
    refine ⟨⟨i + 1, hlt⟩, by show F.length - (i + 1) < F.length - i; omega, by simp [SWo], ⟨by simp [fxS, chS, za], by simp, by simp [ht], ⟨by simp [ht], rfl, ?_⟩, ⟨rfl, rfl, za _ _ _⟩, trivial⟩, by kernel_rfl, Nat.zero_le _⟩
    simp only [ht]
    exact zag (x := F.getD i Fx.nil) (za _ _ _)
   ·rw [if_pos trivial]
    rw [tw] at g
    rw [if_neg (by rw [g]; decide), ← hf] at ht
    exact ⟨⟨i + 1, hlt⟩, by show F.length - (i + 1) < F.length - i; omega, by simp [SWo], by simp [HWo, ht, fxS, chS, za], by kernel_rfl, Nat.zero_le _⟩
  ·have hge : i = F.length := by have := of_decide_eq_false h; omega
   have hf : f = F.filter (woF pa na d) := by rw [hf, hge, List.take_length]
   clear hge h
   refine zc.loop (ι := {i : Nat // i ≤ C.length}) (fun i => SWp pa na d i.1) (fun i => HWo F C f ((C.take i.1).filter (woC pa na d))) (fun i => C.length - i.1) ⟨0, Nat.zero_le _⟩ 0 ?_ ?_ (by kernel_rfl)
   ·exact ⟨by simp [SWp], by simp [HWo, fxS, chS, za], by kernel_rfl, Nat.zero_le _⟩
   ·rintro ⟨j, hjl⟩
    obtain ⟨c, hc⟩ : ∃ c, c = (C.take j).filter (woC pa na d) := ⟨_, rfl⟩
    have hcl : c.length ≤ C.length := by rw [hc]; exact u7 j
    simp only [← hc]
    refine zc.run hmix z7 [1, 2, 3, 4, 8, 9, 10, 12, 29, 30, 31, 32, 35, 36, 37, 38, 61, 62, 63, 64, 67, 68, 69, 70, 73, 74, 75, 76] 400 (T := .ite (decide ((↑j : Int) < (↑(List.length C) : Int))) (.side ((0 : Int) ≤ j ∧ (↑j : Int) < (↑(List.length C) : Int)) (.ite (bif bif bif decide (pa = Array.toList #[]) then true else !decide (Ch.zb (List.getD C (Int.toNat (↑j : Int)) Ch.nil) = pa) then true else !decide (Ch.name (List.getD C (Int.toNat (↑j : Int)) Ch.nil) = na) then true else !decide (Ch.date (List.getD C (Int.toNat (↑j : Int)) Ch.nil) = d)) (.side (0 = 0 ∧ c.length ≤ c.length ∧ (c.length + 1) * 48 ≤ 140737488355328) (.side (inR .i64 ((↑j : Int) + (1 : Int))) (.leaf (.back 0 [(1, .str pa), (2, .str na), (3, .int .i64 d), (4, .ptr 0 0), (8, .ptr 1 0), (9, .ptr 2 0), (10, .undef), (12, .int .i64 ((↑j : Int) + (1 : Int))), (29, .undef), (30, .undef), (31, .undef), (32, .undef), (35, .undef), (36, .undef), (37, .undef), (38, .undef), (61, .undef), (62, .undef), (63, .undef), (64, .undef), (67, .undef), (68, .undef), (69, .undef), (70, .undef), (73, .undef), (74, .undef), (75, .undef), (76, .undef)] [.box [.sl (List.length F) 3 (fxG F), .sl (List.length C) 4 (chG C)], .box [.nils, .nils], .box [.osl 3 3 0 f.length, .osl 4 4 0 (c.length + 1)], .arr f.length 3 (fxG f), .arr (c.length + 1) 4 (appG c.length (chG c) (zg (zf 4 [.str (Ch.zb (List.getD C (Int.toNat (↑j : Int)) Ch.nil)), .str (Ch.name (List.getD C (Int.toNat (↑j : Int)) Ch.nil)), .int .i64 (Ch.date (List.getD C (Int.toNat (↑j : Int)) Ch.nil)), .bool (Ch.first (List.getD C (Int.toNat (↑j : Int)) Ch.nil))]) 0)), .box [.str (Ch.zb (List.getD C (Int.toNat (↑j : Int)) Ch.nil)), .str (Ch.name (List.getD C (Int.toNat (↑j : Int)) Ch.nil)), .int .i64 (Ch.date (List.getD C (Int.toNat (↑j : Int)) Ch.nil)), .bool (Ch.first (List.getD C (Int.toNat (↑j : Int)) Ch.nil))], .arr 1 4 (zf 4 [.str (Ch.zb (List.getD C (Int.toNat (↑j : Int)) Ch.nil)), .str (Ch.name (List.getD C (Int.toNat (↑j : Int)) Ch.nil)), .int .i64 (Ch.date (List.getD C (Int.toNat (↑j : Int)) Ch.nil)), .bool (Ch.first (List.getD C (Int.toNat (↑j : Int)) Ch.nil))])])))) (.side (inR .i64 ((↑j : Int) + (1 : Int))) (.leaf (.back 0 [(1, .str pa), (2, .str na), (3, .int .i64 d), (4, .ptr 0 0), (8, .ptr 1 0), (9, .ptr 2 0), (10, .undef), (12, .int .i64 ((↑j : Int) + (1 : Int))), (29, .undef), (30, .undef), (31, .undef), (32, .undef), (35, .undef), (36, .undef), (37, .undef), (38, .undef), (61, .undef), (62, .undef), (63, .undef), (64, .undef), (67, .undef), (68, .undef), (69, .undef), (70, .undef), (73, .undef), (74, .undef), (75, .undef), (76, .undef)] [.box [.sl (List.length F) 3 (fxG F), .sl (List.length C) 4 (chG C)], .box [.nils, .nils], .box [.osl 3 3 0 f.length, .osl 4 4 0 c.length], .arr f.length 3 (fxG f), .arr c.length 4 (chG c), .box [.str (Ch.zb (List.getD C (Int.toNat (↑j : Int)) Ch.nil)), .str (Ch.name (List.getD C (Int.toNat (↑j : Int)) Ch.nil)), .int .i64 (Ch.date (List.getD C (Int.toNat (↑j : Int)) Ch.nil)), .bool (Ch.first (List.getD C (Int.toNat (↑j : Int)) Ch.nil))]]))))) (.leaf (.ret [.agg [.osl 3 3 0 f.length, .osl 4 4 0 c.length]] [.box [.sl (List.length F) 3 (fxG F), .sl (List.length C) 4 (chG C)], .box [.osl 3 3 0 f.length, .osl 4 4 0 c.length], .box [.osl 3 3 0 f.length, .osl 4 4 0 c.length], .arr f.length 3 (fxG f), .arr c.length 4 (chG c)]))) (by kernel_rfl) ?_
    simp only [Tree.holds, ze, inR, lo, hi, Int.toNat_natCast, Nat.zero_add, bifO]
    refine ⟨fun h => ?_, fun h => ?_⟩
    ·have hlt : j < C.length := by have := of_decide_eq_true h; omega
     have ht := yX (p := woC pa na d) (z := Ch.nil) hlt
     have tw : (decide (pa = []) || !decide ((C.getD j Ch.nil).zb = pa) || !decide ((C.getD j Ch.nil).name = na) || !decide ((C.getD j Ch.nil).date = d)) = woC pa na d (C.getD j Ch.nil) := by simp only [woC, ne_eq, decide_not]
     refine ⟨by omega, fun _ => ⟨fun g => ⟨⟨trivial, Nat.le_refl _, by omega⟩, fun _ => ⟨by omega, fun _ => ?_⟩⟩, fun g => ⟨by omega, fun _ => ?_⟩⟩⟩
     ·rw [if_pos trivial]
      rw [tw] at g
      rw [if_pos g, ← hc] at ht
      refine ⟨⟨j + 1, hlt⟩, by show C.length - (j + 1) < C.length - j; omega, by simp [SWp], ⟨by simp [fxS, chS, za], by simp, by simp [ht], ⟨rfl, rfl, za _ _ _⟩, ⟨by simp [ht], rfl, ?_⟩, trivial⟩, by kernel_rfl, Nat.zero_le _⟩
      simp only [ht]
      exact za8 (x := C.getD j Ch.nil) (za _ _ _)
     ·rw [if_pos trivial]
      rw [tw] at g
      rw [if_neg (by rw [g]; decide), ← hc] at ht
      exact ⟨⟨j + 1, hlt⟩, by show C.length - (j + 1) < C.length - j; omega, by simp [SWp], by simp [HWo, ht, fxS, chS, za], by kernel_rfl, Nat.zero_le _⟩
    ·have hge : j = C.length := by have := of_decide_eq_false h; omega
     have hc : c = C.filter (woC pa na d) := by rw [hc, hge, List.take_length]
     rw [← hf, ← hc] at hq
     refine RetR.out0 hq (fun _ => ?_) ?_
     ·simp only [resV, new2, new1, List.mem_cons, List.not_mem_nil, or_false, forall_eq_or_imp, forall_eq, new0]
      refine ⟨fun _ => ?_, fun _ => ?_⟩
      ·simp only [exp0, zp, frz1, qM, List.getElem?_cons_zero, List.getElem?_cons_succ, if_true, uA]
       exact fun j o hj ho => QD _ _ _ ho
      ·simp only [exp0, zp, frz1, qM, List.getElem?_cons_succ, List.getElem?_cons_zero, if_true, uA]
       exact fun j o hj ho => QP _ _ _ ho
     ·simp [resV, exp2, exp1, exp0, zp, frz1, qM, ren0, eqA2, envA, fxS, chS, vq]
theorem Vb : zd Try.prog 22 Zj := by
 refine zm (fn := Try.f22) (c := Try.f22.body.getD .skip) rfl rfl rfl fun p hp O w0 Q hq => ?_
 obtain ⟨⟨F, C⟩, pa, na, d⟩ := p
 replace hq := hq _ rfl
 refine zc.run hmix z7 [1, 2, 3, 4, 8, 9, 10, 12, 29, 30, 31, 32, 35, 36, 37, 38, 61, 62, 63, 64, 67, 68, 69, 70, 73, 74, 75, 76] 400 (T := .leaf (.loop (Prod.fst (lps K22 0)) (Prod.snd (lps K22 0)) [(1, .str pa), (2, .str na), (3, .int .i64 d), (4, .ptr 0 0), (8, .ptr 1 0), (9, .ptr 2 0), (10, .int .i64 0), (12, .undef), (29, .undef), (30, .undef), (31, .undef), (32, .undef), (35, .undef), (36, .undef), (37, .undef), (38, .undef), (61, .undef), (62, .undef), (63, .undef), (64, .undef), (67, .undef), (68, .undef), (69, .undef), (70, .undef), (73, .undef), (74, .undef), (75, .undef), (76, .undef)] [.box [.sl (List.length F) 3 (fxG F), .sl (List.length C) 4 (chG C)], .box [.nils, .nils], .box [.nils, .nils]])) (by kernel_rfl) ?_
 simp only [Tree.holds, ze]
 refine zc.KB 2 0 3 (fxG []) rfl rfl (by kernel_rfl) ?_
 refine zc.KB 2 1 4 (chG []) rfl rfl (by kernel_rfl) ?_
 exact zc.weak (S := SWo pa na d 0) (H := HWo F C [] []) ⟨by simp [SWo], by simp [HWo, fxS, chS, za], by kernel_rfl, Nat.zero_le _⟩ (J3 F C pa na d hp.1 hp.2 hq)
def zbr : Ctr := ctrP true (fun p : List Ev × Ev => [.agg [evS p.1], p.2.av]) (fun p => KD p.1 ∧ Qh p.2) (fun _ r => r = true) (fun _ (r : Bool) => (.bool r, []))
noncomputable def GNw : Nat → Option Ctr := fun f => if f = 10 then some (K5) else if f = 11 then some (XZ) else if f = 17 then some (K8) else if f = 18 then some (Ki) else if f = 12 then some (YJ) else if f = 19 then some (QE) else if f = 21 then some (Ja) else if f = 22 then some (Zj) else if f = 23 then some (zb2) else if f = 24 then some (KE) else none
theorem zc4 : ∀ g c, GNw g = some c → zd Try.prog g c := okIf XC (okIf K6 (okIf KZ (okIf QI (okIf Ko (okIf W6 (okIf ZX (okIf Vb (okIf zai (okIf Xo (zu))))))))))
theorem Ub : zd Try.prog 7 zbr := by
 refine zm (fn := Try.f7) (c := Try.f7.body.getD .skip) rfl rfl rfl fun p hp O w0 Q hq => ?_
 obtain ⟨l, e⟩ := p
 replace hq := hq _ rfl
 refine zc.run hmix zc4 [] 400 (T := .ex (fun (x : Unit) => eqL [] [] ∧ True) fun n => .all (fun (r : Bool) => r = true) fun n => .ex (fun (x : List Ev) => eqL [AV.agg [AV.sl l.length 9 (evG l)]] [AV.agg [AV.sl x.length 9 (evG x)]] ∧ KD x) fun n_1 => .all (fun (r : Bool) => r = false → fitL n_1) fun n_2 => .ex (fun (x : Ev) => n_2 = false → eqL [AV.agg [AV.int .u8 e.kind, AV.int .i64 e.id, AV.int .i64 e.entry, AV.int .i64 e.target, AV.int .i64 e.date, AV.str e.zb, AV.str e.name, AV.str e.value, AV.bool e.first]] [AV.agg [AV.int .u8 x.kind, AV.int .i64 x.id, AV.int .i64 x.entry, AV.int .i64 x.target, AV.int .i64 x.date, AV.str x.zb, AV.str x.name, AV.str x.value, AV.bool x.first]] ∧ Qh x) fun n_3 => .all (fun (x : Bool) => n_2 = false → x = false → zB n_3) fun n_4 => .ite (bif bif n_2 then true else n_4 then true else !n) (.leaf (.ret [.bool n] [.box [.sl l.length 9 (evG l)], .box [.int .u8 e.kind, .int .i64 e.id, .int .i64 e.entry, .int .i64 e.target, .int .i64 e.date, .str e.zb, .str e.name, .str e.value, .bool e.first]])) (.ex (fun (x : List Ev × Ev) => eqL [AV.agg [AV.sl l.length 9 (evG l)], AV.agg [AV.int .u8 e.kind, AV.int .i64 e.id, AV.int .i64 e.entry, AV.int .i64 e.target, AV.int .i64 e.date, AV.str e.zb, AV.str e.name, AV.str e.value, AV.bool e.first]] [AV.agg [AV.sl x.1.length 9 (evG x.1)], AV.agg [AV.int .u8 x.2.kind, AV.int .i64 x.2.id, AV.int .i64 x.2.entry, AV.int .i64 x.2.target, AV.int .i64 x.2.date, AV.str x.2.zb, AV.str x.2.name, AV.str x.2.value, AV.bool x.2.first]] ∧ evP x.1 ∧ zB x.2) fun n_5 => .all (fun (r : List Ev × Int) => r = appS n_5.1 n_5.2) fun n_6 => .ite (!decide (n_6.2 = 0)) (.leaf (.ret [.bool (bif n then decide ((↑n_6.1.length : Int) = 0) else false)] [.box [.sl l.length 9 (evG l)], .box [.int .u8 e.kind, .int .i64 e.id, .int .i64 e.entry, .int .i64 e.target, .int .i64 e.date, .str e.zb, .str e.name, .str e.value, .bool e.first], .box [.sl n_6.1.length 9 (evG n_6.1)]])) (.ex (fun (x : List Ev × Int) => eqL [AV.agg [AV.sl l.length 9 (evG l)], AV.int .i64 1125899906842624] [AV.agg [AV.sl x.1.length 9 (evG x.1)], AV.int .i64 x.2] ∧ evP x.1) fun n_7 => .all (fun (r : EnvL × Int) => r = zw n_7.1 n_7.2 none) fun n_8 => .ex (fun (x : List Ev × Int) => eqL [AV.agg [AV.sl n_6.1.length 9 (evG n_6.1)], AV.int .i64 1125899906842624] [AV.agg [AV.sl x.1.length 9 (evG x.1)], AV.int .i64 x.2] ∧ evP x.1) fun n_9 => .all (fun (r : EnvL × Int) => r = zw n_9.1 n_9.2 none) fun n_10 => .ex (fun (x : List Fx × List Ch) => (bif !decide (n_8.2 = 0) then true else !decide (n_10.2 = 0)) = false → eqL [AV.agg [AV.sl n_10.1.1.length 3 (fxG n_10.1.1), AV.sl n_10.1.2.length 4 (chG n_10.1.2)]] [AV.agg [AV.sl x.1.length 3 (fxG x.1), AV.sl x.2.length 4 (chG x.2)]] ∧ envP x) fun n_11 => .all (fun (x : Int) => (bif !decide (n_8.2 = 0) then true else !decide (n_10.2 = 0)) = false → x = errE n_11.1 n_11.2) fun n_12 => .ite (bif bif !decide (n_8.2 = 0) then true else !decide (n_10.2 = 0) then true else !decide (n_12 = 0)) (.leaf (.ret [.bool false] [.box [.sl l.length 9 (evG l)], .box [.int .u8 e.kind, .int .i64 e.id, .int .i64 e.entry, .int .i64 e.target, .int .i64 e.date, .str e.zb, .str e.name, .str e.value, .bool e.first], .box [.sl n_6.1.length 9 (evG n_6.1)], .box [.sl n_8.1.1.length 3 (fxG n_8.1.1), .sl n_8.1.2.length 4 (chG n_8.1.2)], .box [.sl n_10.1.1.length 3 (fxG n_10.1.1), .sl n_10.1.2.length 4 (chG n_10.1.2)]])) (.ite (decide ((0 : Int) < Ev.target e)) (.ite (decide ((↑l.length : Int) < Ev.target e)) (.leaf (.ret [.bool false] [.box [.sl l.length 9 (evG l)], .box [.int .u8 e.kind, .int .i64 e.id, .int .i64 e.entry, .int .i64 e.target, .int .i64 e.date, .str e.zb, .str e.name, .str e.value, .bool e.first], .box [.sl n_6.1.length 9 (evG n_6.1)], .box [.sl n_8.1.1.length 3 (fxG n_8.1.1), .sl n_8.1.2.length 4 (chG n_8.1.2)], .box [.sl n_10.1.1.length 3 (fxG n_10.1.1), .sl n_10.1.2.length 4 (chG n_10.1.2)], .box [.int .u8 e.kind, .int .i64 e.id, .int .i64 e.entry, .int .i64 e.target, .int .i64 e.date, .str e.zb, .str e.name, .str e.value, .bool e.first]])) (.side (inR .i64 (Ev.target e - (1 : Int))) (.side ((0 : Int) ≤ Ev.target e - (1 : Int) ∧ Ev.target e - (1 : Int) < l.length) (.ex (fun (x : (List Fx × List Ch) × List UInt8 × List UInt8 × Int) => eqL [AV.agg [AV.sl n_8.1.1.length 3 (fxG n_8.1.1), AV.sl n_8.1.2.length 4 (chG n_8.1.2)], AV.str (Ev.zb (List.getD l (Int.toNat (Ev.target e - (1 : Int))) Ev.nil)), AV.str (Ev.name (List.getD l (Int.toNat (Ev.target e - (1 : Int))) Ev.nil)), AV.int .i64 (Ev.date (List.getD l (Int.toNat (Ev.target e - (1 : Int))) Ev.nil))] [AV.agg [AV.sl x.1.1.length 3 (fxG x.1.1), AV.sl x.1.2.length 4 (chG x.1.2)], AV.str x.2.1, AV.str x.2.2.1, AV.int .i64 x.2.2.2] ∧ lenE x.1) fun n_13 => .all (fun (r : List Fx × List Ch) => r = qv n_13.1 n_13.2.1 n_13.2.2.1 n_13.2.2.2) fun n_14 => .ex (fun (x : (List Fx × List Ch) × List UInt8 × List UInt8 × Int) => eqL [AV.agg [AV.sl n_10.1.1.length 3 (fxG n_10.1.1), AV.sl n_10.1.2.length 4 (chG n_10.1.2)], AV.str (Ev.zb (List.getD l (Int.toNat (Ev.target e - (1 : Int))) Ev.nil)), AV.str (Ev.name (List.getD l (Int.toNat (Ev.target e - (1 : Int))) Ev.nil)), AV.int .i64 (Ev.date (List.getD l (Int.toNat (Ev.target e - (1 : Int))) Ev.nil))] [AV.agg [AV.sl x.1.1.length 3 (fxG x.1.1), AV.sl x.1.2.length 4 (chG x.1.2)], AV.str x.2.1, AV.str x.2.2.1, AV.int .i64 x.2.2.2] ∧ lenE x.1) fun n_15 => .all (fun (r : List Fx × List Ch) => r = qv n_15.1 n_15.2.1 n_15.2.2.1 n_15.2.2.2) fun n_16 => .ex (fun (x : (List Fx × List Ch) × List Fx × List Ch) => eqL [AV.agg [AV.sl n_14.1.length 3 (fxG n_14.1), AV.sl n_14.2.length 4 (chG n_14.2)], AV.agg [AV.sl n_16.1.length 3 (fxG n_16.1), AV.sl n_16.2.length 4 (chG n_16.2)]] [AV.agg [AV.sl x.1.1.length 3 (fxG x.1.1), AV.sl x.1.2.length 4 (chG x.1.2)], AV.agg [AV.sl x.2.1.length 3 (fxG x.2.1), AV.sl x.2.2.length 4 (chG x.2.2)]] ∧ x.1.1.length < 1099511627776 ∧ x.1.2.length < 1099511627776) fun n_17 => .all (fun (r : Bool) => r = true ↔ n_17.1 = n_17.2) fun n_18 => .ite (!n_18) (.leaf (.ret [.bool false] [.box [.sl l.length 9 (evG l)], .box [.int .u8 e.kind, .int .i64 e.id, .int .i64 e.entry, .int .i64 e.target, .int .i64 e.date, .str e.zb, .str e.name, .str e.value, .bool e.first], .box [.sl n_6.1.length 9 (evG n_6.1)], .box [.sl n_8.1.1.length 3 (fxG n_8.1.1), .sl n_8.1.2.length 4 (chG n_8.1.2)], .box [.sl n_10.1.1.length 3 (fxG n_10.1.1), .sl n_10.1.2.length 4 (chG n_10.1.2)], .box [.int .u8 (Ev.kind (List.getD l (Int.toNat (Ev.target e - (1 : Int))) Ev.nil)), .int .i64 (Ev.id (List.getD l (Int.toNat (Ev.target e - (1 : Int))) Ev.nil)), .int .i64 (Ev.entry (List.getD l (Int.toNat (Ev.target e - (1 : Int))) Ev.nil)), .int .i64 (Ev.target (List.getD l (Int.toNat (Ev.target e - (1 : Int))) Ev.nil)), .int .i64 (Ev.date (List.getD l (Int.toNat (Ev.target e - (1 : Int))) Ev.nil)), .str (Ev.zb (List.getD l (Int.toNat (Ev.target e - (1 : Int))) Ev.nil)), .str (Ev.name (List.getD l (Int.toNat (Ev.target e - (1 : Int))) Ev.nil)), .str (Ev.value (List.getD l (Int.toNat (Ev.target e - (1 : Int))) Ev.nil)), .bool (Ev.first (List.getD l (Int.toNat (Ev.target e - (1 : Int))) Ev.nil))]])) (.ex (fun (x : (List Fx × List Ch) × List UInt8 × Int) => eqL [AV.agg [AV.sl n_10.1.1.length 3 (fxG n_10.1.1), AV.sl n_10.1.2.length 4 (chG n_10.1.2)], AV.str (Ev.name (List.getD l (Int.toNat (Ev.target e - (1 : Int))) Ev.nil)), AV.int .i64 (Ev.date (List.getD l (Int.toNat (Ev.target e - (1 : Int))) Ev.nil))] [AV.agg [AV.sl x.1.1.length 3 (fxG x.1.1), AV.sl x.1.2.length 4 (chG x.1.2)], AV.str x.2.1, AV.int .i64 x.2.2] ∧ x.1.1.length < 1099511627776) fun n_19 => .all (fun (r : List UInt8 × Bool) => r = jP n_19.1.1 n_19.2.1 n_19.2.2) fun n_20 => .ex (fun (x : (List Fx × List Ch) × List UInt8 × List UInt8 × Int) => eqL [AV.agg [AV.sl n_10.1.1.length 3 (fxG n_10.1.1), AV.sl n_10.1.2.length 4 (chG n_10.1.2)], AV.str (Ev.zb (List.getD l (Int.toNat (Ev.target e - (1 : Int))) Ev.nil)), AV.str (Ev.name (List.getD l (Int.toNat (Ev.target e - (1 : Int))) Ev.nil)), AV.int .i64 (Ev.date (List.getD l (Int.toNat (Ev.target e - (1 : Int))) Ev.nil))] [AV.agg [AV.sl x.1.1.length 3 (fxG x.1.1), AV.sl x.1.2.length 4 (chG x.1.2)], AV.str x.2.1, AV.str x.2.2.1, AV.int .i64 x.2.2.2] ∧ x.1.2.length < 1099511627776) fun n_21 => .all (fun (r : Bool) => r = qe n_21.1.2 n_21.2.1 n_21.2.2.1 n_21.2.2.2) fun n_22 => .side (inR .i64 ((↑n_10.1.1.length : Int) + n_10.1.2.length)) (.side (inR .i64 ((↑n_10.1.1.length : Int) + n_10.1.2.length - (↑n_8.1.1.length : Int))) (.side (inR .i64 ((↑n_10.1.1.length : Int) + n_10.1.2.length - (↑n_8.1.1.length : Int) - n_8.1.2.length)) (.ite (decide (Ev.kind e = 1)) (.leaf (.ret [.bool (bif bif bif n then n_20.2 else false then decide (n_20.1 = Ev.value e) else false then decide ((↑n_10.1.1.length : Int) + n_10.1.2.length - (↑n_8.1.1.length : Int) - n_8.1.2.length = 1) else false)] [.box [.sl l.length 9 (evG l)], .box [.int .u8 e.kind, .int .i64 e.id, .int .i64 e.entry, .int .i64 e.target, .int .i64 e.date, .str e.zb, .str e.name, .str e.value, .bool e.first], .box [.sl n_6.1.length 9 (evG n_6.1)], .box [.sl n_8.1.1.length 3 (fxG n_8.1.1), .sl n_8.1.2.length 4 (chG n_8.1.2)], .box [.sl n_10.1.1.length 3 (fxG n_10.1.1), .sl n_10.1.2.length 4 (chG n_10.1.2)], .box [.int .u8 (Ev.kind (List.getD l (Int.toNat (Ev.target e - (1 : Int))) Ev.nil)), .int .i64 (Ev.id (List.getD l (Int.toNat (Ev.target e - (1 : Int))) Ev.nil)), .int .i64 (Ev.entry (List.getD l (Int.toNat (Ev.target e - (1 : Int))) Ev.nil)), .int .i64 (Ev.target (List.getD l (Int.toNat (Ev.target e - (1 : Int))) Ev.nil)), .int .i64 (Ev.date (List.getD l (Int.toNat (Ev.target e - (1 : Int))) Ev.nil)), .str (Ev.zb (List.getD l (Int.toNat (Ev.target e - (1 : Int))) Ev.nil)), .str (Ev.name (List.getD l (Int.toNat (Ev.target e - (1 : Int))) Ev.nil)), .str (Ev.value (List.getD l (Int.toNat (Ev.target e - (1 : Int))) Ev.nil)), .bool (Ev.first (List.getD l (Int.toNat (Ev.target e - (1 : Int))) Ev.nil))]])) (.ite (decide (Ev.kind e = 2)) (.leaf (.ret [.bool (bif bif n then n_22 == Ev.first e else false then decide ((↑n_10.1.1.length : Int) + n_10.1.2.length - (↑n_8.1.1.length : Int) - n_8.1.2.length = 1) else false)] [.box [.sl l.length 9 (evG l)], .box [.int .u8 e.kind, .int .i64 e.id, .int .i64 e.entry, .int .i64 e.target, .int .i64 e.date, .str e.zb, .str e.name, .str e.value, .bool e.first], .box [.sl n_6.1.length 9 (evG n_6.1)], .box [.sl n_8.1.1.length 3 (fxG n_8.1.1), .sl n_8.1.2.length 4 (chG n_8.1.2)], .box [.sl n_10.1.1.length 3 (fxG n_10.1.1), .sl n_10.1.2.length 4 (chG n_10.1.2)], .box [.int .u8 (Ev.kind (List.getD l (Int.toNat (Ev.target e - (1 : Int))) Ev.nil)), .int .i64 (Ev.id (List.getD l (Int.toNat (Ev.target e - (1 : Int))) Ev.nil)), .int .i64 (Ev.entry (List.getD l (Int.toNat (Ev.target e - (1 : Int))) Ev.nil)), .int .i64 (Ev.target (List.getD l (Int.toNat (Ev.target e - (1 : Int))) Ev.nil)), .int .i64 (Ev.date (List.getD l (Int.toNat (Ev.target e - (1 : Int))) Ev.nil)), .str (Ev.zb (List.getD l (Int.toNat (Ev.target e - (1 : Int))) Ev.nil)), .str (Ev.name (List.getD l (Int.toNat (Ev.target e - (1 : Int))) Ev.nil)), .str (Ev.value (List.getD l (Int.toNat (Ev.target e - (1 : Int))) Ev.nil)), .bool (Ev.first (List.getD l (Int.toNat (Ev.target e - (1 : Int))) Ev.nil))]])) (.ite (decide (Ev.kind e = 3)) (.leaf (.ret [.bool (bif bif bif n then n_20.2 else false then decide (n_20.1 = Ev.value e) else false then decide ((↑n_10.1.1.length : Int) + n_10.1.2.length - (↑n_8.1.1.length : Int) - n_8.1.2.length = 0) else false)] [.box [.sl l.length 9 (evG l)], .box [.int .u8 e.kind, .int .i64 e.id, .int .i64 e.entry, .int .i64 e.target, .int .i64 e.date, .str e.zb, .str e.name, .str e.value, .bool e.first], .box [.sl n_6.1.length 9 (evG n_6.1)], .box [.sl n_8.1.1.length 3 (fxG n_8.1.1), .sl n_8.1.2.length 4 (chG n_8.1.2)], .box [.sl n_10.1.1.length 3 (fxG n_10.1.1), .sl n_10.1.2.length 4 (chG n_10.1.2)], .box [.int .u8 (Ev.kind (List.getD l (Int.toNat (Ev.target e - (1 : Int))) Ev.nil)), .int .i64 (Ev.id (List.getD l (Int.toNat (Ev.target e - (1 : Int))) Ev.nil)), .int .i64 (Ev.entry (List.getD l (Int.toNat (Ev.target e - (1 : Int))) Ev.nil)), .int .i64 (Ev.target (List.getD l (Int.toNat (Ev.target e - (1 : Int))) Ev.nil)), .int .i64 (Ev.date (List.getD l (Int.toNat (Ev.target e - (1 : Int))) Ev.nil)), .str (Ev.zb (List.getD l (Int.toNat (Ev.target e - (1 : Int))) Ev.nil)), .str (Ev.name (List.getD l (Int.toNat (Ev.target e - (1 : Int))) Ev.nil)), .str (Ev.value (List.getD l (Int.toNat (Ev.target e - (1 : Int))) Ev.nil)), .bool (Ev.first (List.getD l (Int.toNat (Ev.target e - (1 : Int))) Ev.nil))]])) (.ite (decide (Ev.kind e = 4)) (.leaf (.ret [.bool (bif bif n then n_22 == Ev.first e else false then decide ((↑n_10.1.1.length : Int) + n_10.1.2.length - (↑n_8.1.1.length : Int) - n_8.1.2.length = 0) else false)] [.box [.sl l.length 9 (evG l)], .box [.int .u8 e.kind, .int .i64 e.id, .int .i64 e.entry, .int .i64 e.target, .int .i64 e.date, .str e.zb, .str e.name, .str e.value, .bool e.first], .box [.sl n_6.1.length 9 (evG n_6.1)], .box [.sl n_8.1.1.length 3 (fxG n_8.1.1), .sl n_8.1.2.length 4 (chG n_8.1.2)], .box [.sl n_10.1.1.length 3 (fxG n_10.1.1), .sl n_10.1.2.length 4 (chG n_10.1.2)], .box [.int .u8 (Ev.kind (List.getD l (Int.toNat (Ev.target e - (1 : Int))) Ev.nil)), .int .i64 (Ev.id (List.getD l (Int.toNat (Ev.target e - (1 : Int))) Ev.nil)), .int .i64 (Ev.entry (List.getD l (Int.toNat (Ev.target e - (1 : Int))) Ev.nil)), .int .i64 (Ev.target (List.getD l (Int.toNat (Ev.target e - (1 : Int))) Ev.nil)), .int .i64 (Ev.date (List.getD l (Int.toNat (Ev.target e - (1 : Int))) Ev.nil)), .str (Ev.zb (List.getD l (Int.toNat (Ev.target e - (1 : Int))) Ev.nil)), .str (Ev.name (List.getD l (Int.toNat (Ev.target e - (1 : Int))) Ev.nil)), .str (Ev.value (List.getD l (Int.toNat (Ev.target e - (1 : Int))) Ev.nil)), .bool (Ev.first (List.getD l (Int.toNat (Ev.target e - (1 : Int))) Ev.nil))]])) (.leaf (.ret [.bool (bif n then decide ((↑n_10.1.1.length : Int) + n_10.1.2.length - (↑n_8.1.1.length : Int) - n_8.1.2.length = (-1 : Int)) else false)] [.box [.sl l.length 9 (evG l)], .box [.int .u8 e.kind, .int .i64 e.id, .int .i64 e.entry, .int .i64 e.target, .int .i64 e.date, .str e.zb, .str e.name, .str e.value, .bool e.first], .box [.sl n_6.1.length 9 (evG n_6.1)], .box [.sl n_8.1.1.length 3 (fxG n_8.1.1), .sl n_8.1.2.length 4 (chG n_8.1.2)], .box [.sl n_10.1.1.length 3 (fxG n_10.1.1), .sl n_10.1.2.length 4 (chG n_10.1.2)], .box [.int .u8 (Ev.kind (List.getD l (Int.toNat (Ev.target e - (1 : Int))) Ev.nil)), .int .i64 (Ev.id (List.getD l (Int.toNat (Ev.target e - (1 : Int))) Ev.nil)), .int .i64 (Ev.entry (List.getD l (Int.toNat (Ev.target e - (1 : Int))) Ev.nil)), .int .i64 (Ev.target (List.getD l (Int.toNat (Ev.target e - (1 : Int))) Ev.nil)), .int .i64 (Ev.date (List.getD l (Int.toNat (Ev.target e - (1 : Int))) Ev.nil)), .str (Ev.zb (List.getD l (Int.toNat (Ev.target e - (1 : Int))) Ev.nil)), .str (Ev.name (List.getD l (Int.toNat (Ev.target e - (1 : Int))) Ev.nil)), .str (Ev.value (List.getD l (Int.toNat (Ev.target e - (1 : Int))) Ev.nil)), .bool (Ev.first (List.getD l (Int.toNat (Ev.target e - (1 : Int))) Ev.nil))]]))))))))))))) (.ex (fun (x : (List Fx × List Ch) × List UInt8 × List UInt8 × Int) => eqL [AV.agg [AV.sl n_8.1.1.length 3 (fxG n_8.1.1), AV.sl n_8.1.2.length 4 (chG n_8.1.2)], AV.str e.zb, AV.str e.name, AV.int .i64 e.date] [AV.agg [AV.sl x.1.1.length 3 (fxG x.1.1), AV.sl x.1.2.length 4 (chG x.1.2)], AV.str x.2.1, AV.str x.2.2.1, AV.int .i64 x.2.2.2] ∧ lenE x.1) fun n_13 => .all (fun (r : List Fx × List Ch) => r = qv n_13.1 n_13.2.1 n_13.2.2.1 n_13.2.2.2) fun n_14 => .ex (fun (x : (List Fx × List Ch) × List UInt8 × List UInt8 × Int) => eqL [AV.agg [AV.sl n_10.1.1.length 3 (fxG n_10.1.1), AV.sl n_10.1.2.length 4 (chG n_10.1.2)], AV.str e.zb, AV.str e.name, AV.int .i64 e.date] [AV.agg [AV.sl x.1.1.length 3 (fxG x.1.1), AV.sl x.1.2.length 4 (chG x.1.2)], AV.str x.2.1, AV.str x.2.2.1, AV.int .i64 x.2.2.2] ∧ lenE x.1) fun n_15 => .all (fun (r : List Fx × List Ch) => r = qv n_15.1 n_15.2.1 n_15.2.2.1 n_15.2.2.2) fun n_16 => .ex (fun (x : (List Fx × List Ch) × List Fx × List Ch) => eqL [AV.agg [AV.sl n_14.1.length 3 (fxG n_14.1), AV.sl n_14.2.length 4 (chG n_14.2)], AV.agg [AV.sl n_16.1.length 3 (fxG n_16.1), AV.sl n_16.2.length 4 (chG n_16.2)]] [AV.agg [AV.sl x.1.1.length 3 (fxG x.1.1), AV.sl x.1.2.length 4 (chG x.1.2)], AV.agg [AV.sl x.2.1.length 3 (fxG x.2.1), AV.sl x.2.2.length 4 (chG x.2.2)]] ∧ x.1.1.length < 1099511627776 ∧ x.1.2.length < 1099511627776) fun n_17 => .all (fun (r : Bool) => r = true ↔ n_17.1 = n_17.2) fun n_18 => .ite (!n_18) (.leaf (.ret [.bool false] [.box [.sl l.length 9 (evG l)], .box [.int .u8 e.kind, .int .i64 e.id, .int .i64 e.entry, .int .i64 e.target, .int .i64 e.date, .str e.zb, .str e.name, .str e.value, .bool e.first], .box [.sl n_6.1.length 9 (evG n_6.1)], .box [.sl n_8.1.1.length 3 (fxG n_8.1.1), .sl n_8.1.2.length 4 (chG n_8.1.2)], .box [.sl n_10.1.1.length 3 (fxG n_10.1.1), .sl n_10.1.2.length 4 (chG n_10.1.2)], .box [.int .u8 e.kind, .int .i64 e.id, .int .i64 e.entry, .int .i64 e.target, .int .i64 e.date, .str e.zb, .str e.name, .str e.value, .bool e.first]])) (.ex (fun (x : (List Fx × List Ch) × List UInt8 × Int) => eqL [AV.agg [AV.sl n_10.1.1.length 3 (fxG n_10.1.1), AV.sl n_10.1.2.length 4 (chG n_10.1.2)], AV.str e.name, AV.int .i64 e.date] [AV.agg [AV.sl x.1.1.length 3 (fxG x.1.1), AV.sl x.1.2.length 4 (chG x.1.2)], AV.str x.2.1, AV.int .i64 x.2.2] ∧ x.1.1.length < 1099511627776) fun n_19 => .all (fun (r : List UInt8 × Bool) => r = jP n_19.1.1 n_19.2.1 n_19.2.2) fun n_20 => .ex (fun (x : (List Fx × List Ch) × List UInt8 × List UInt8 × Int) => eqL [AV.agg [AV.sl n_10.1.1.length 3 (fxG n_10.1.1), AV.sl n_10.1.2.length 4 (chG n_10.1.2)], AV.str e.zb, AV.str e.name, AV.int .i64 e.date] [AV.agg [AV.sl x.1.1.length 3 (fxG x.1.1), AV.sl x.1.2.length 4 (chG x.1.2)], AV.str x.2.1, AV.str x.2.2.1, AV.int .i64 x.2.2.2] ∧ x.1.2.length < 1099511627776) fun n_21 => .all (fun (r : Bool) => r = qe n_21.1.2 n_21.2.1 n_21.2.2.1 n_21.2.2.2) fun n_22 => .side (inR .i64 ((↑n_10.1.1.length : Int) + n_10.1.2.length)) (.side (inR .i64 ((↑n_10.1.1.length : Int) + n_10.1.2.length - (↑n_8.1.1.length : Int))) (.side (inR .i64 ((↑n_10.1.1.length : Int) + n_10.1.2.length - (↑n_8.1.1.length : Int) - n_8.1.2.length)) (.ite (decide (Ev.kind e = 1)) (.leaf (.ret [.bool (bif bif bif n then n_20.2 else false then decide (n_20.1 = Ev.value e) else false then decide ((↑n_10.1.1.length : Int) + n_10.1.2.length - (↑n_8.1.1.length : Int) - n_8.1.2.length = 1) else false)] [.box [.sl l.length 9 (evG l)], .box [.int .u8 e.kind, .int .i64 e.id, .int .i64 e.entry, .int .i64 e.target, .int .i64 e.date, .str e.zb, .str e.name, .str e.value, .bool e.first], .box [.sl n_6.1.length 9 (evG n_6.1)], .box [.sl n_8.1.1.length 3 (fxG n_8.1.1), .sl n_8.1.2.length 4 (chG n_8.1.2)], .box [.sl n_10.1.1.length 3 (fxG n_10.1.1), .sl n_10.1.2.length 4 (chG n_10.1.2)], .box [.int .u8 e.kind, .int .i64 e.id, .int .i64 e.entry, .int .i64 e.target, .int .i64 e.date, .str e.zb, .str e.name, .str e.value, .bool e.first]])) (.ite (decide (Ev.kind e = 2)) (.leaf (.ret [.bool (bif bif n then n_22 == Ev.first e else false then decide ((↑n_10.1.1.length : Int) + n_10.1.2.length - (↑n_8.1.1.length : Int) - n_8.1.2.length = 1) else false)] [.box [.sl l.length 9 (evG l)], .box [.int .u8 e.kind, .int .i64 e.id, .int .i64 e.entry, .int .i64 e.target, .int .i64 e.date, .str e.zb, .str e.name, .str e.value, .bool e.first], .box [.sl n_6.1.length 9 (evG n_6.1)], .box [.sl n_8.1.1.length 3 (fxG n_8.1.1), .sl n_8.1.2.length 4 (chG n_8.1.2)], .box [.sl n_10.1.1.length 3 (fxG n_10.1.1), .sl n_10.1.2.length 4 (chG n_10.1.2)], .box [.int .u8 e.kind, .int .i64 e.id, .int .i64 e.entry, .int .i64 e.target, .int .i64 e.date, .str e.zb, .str e.name, .str e.value, .bool e.first]])) (.ite (decide (Ev.kind e = 3)) (.leaf (.ret [.bool (bif bif bif n then n_20.2 else false then decide (n_20.1 = Ev.value e) else false then decide ((↑n_10.1.1.length : Int) + n_10.1.2.length - (↑n_8.1.1.length : Int) - n_8.1.2.length = 0) else false)] [.box [.sl l.length 9 (evG l)], .box [.int .u8 e.kind, .int .i64 e.id, .int .i64 e.entry, .int .i64 e.target, .int .i64 e.date, .str e.zb, .str e.name, .str e.value, .bool e.first], .box [.sl n_6.1.length 9 (evG n_6.1)], .box [.sl n_8.1.1.length 3 (fxG n_8.1.1), .sl n_8.1.2.length 4 (chG n_8.1.2)], .box [.sl n_10.1.1.length 3 (fxG n_10.1.1), .sl n_10.1.2.length 4 (chG n_10.1.2)], .box [.int .u8 e.kind, .int .i64 e.id, .int .i64 e.entry, .int .i64 e.target, .int .i64 e.date, .str e.zb, .str e.name, .str e.value, .bool e.first]])) (.ite (decide (Ev.kind e = 4)) (.leaf (.ret [.bool (bif bif n then n_22 == Ev.first e else false then decide ((↑n_10.1.1.length : Int) + n_10.1.2.length - (↑n_8.1.1.length : Int) - n_8.1.2.length = 0) else false)] [.box [.sl l.length 9 (evG l)], .box [.int .u8 e.kind, .int .i64 e.id, .int .i64 e.entry, .int .i64 e.target, .int .i64 e.date, .str e.zb, .str e.name, .str e.value, .bool e.first], .box [.sl n_6.1.length 9 (evG n_6.1)], .box [.sl n_8.1.1.length 3 (fxG n_8.1.1), .sl n_8.1.2.length 4 (chG n_8.1.2)], .box [.sl n_10.1.1.length 3 (fxG n_10.1.1), .sl n_10.1.2.length 4 (chG n_10.1.2)], .box [.int .u8 e.kind, .int .i64 e.id, .int .i64 e.entry, .int .i64 e.target, .int .i64 e.date, .str e.zb, .str e.name, .str e.value, .bool e.first]])) (.leaf (.ret [.bool (bif n then decide ((↑n_10.1.1.length : Int) + n_10.1.2.length - (↑n_8.1.1.length : Int) - n_8.1.2.length = (-1 : Int)) else false)] [.box [.sl l.length 9 (evG l)], .box [.int .u8 e.kind, .int .i64 e.id, .int .i64 e.entry, .int .i64 e.target, .int .i64 e.date, .str e.zb, .str e.name, .str e.value, .bool e.first], .box [.sl n_6.1.length 9 (evG n_6.1)], .box [.sl n_8.1.1.length 3 (fxG n_8.1.1), .sl n_8.1.2.length 4 (chG n_8.1.2)], .box [.sl n_10.1.1.length 3 (fxG n_10.1.1), .sl n_10.1.2.length 4 (chG n_10.1.2)], .box [.int .u8 e.kind, .int .i64 e.id, .int .i64 e.entry, .int .i64 e.target, .int .i64 e.date, .str e.zb, .str e.name, .str e.value, .bool e.first]])))))))))))))) (by kernel_rfl) ?_
 simp only [Tree.holds, ze]
 obtain ⟨hg, hu⟩ := hp
 have fin : ∀ (b : Bool) (h : Heap), b = true → RetR zbr 0 Q [.bool b] h := by
  rintro b h rfl
  exact RetR.scal hq rfl rfl
 refine ⟨(), ⟨trivial, trivial⟩, ⟨true, rfl⟩, ?_⟩
 rintro _ rfl
 simp only [bifO, bifA, Bool.true_and, Bool.not_true, Bool.or_false]
 refine ⟨l, ⟨by simp [evS, za], hg⟩, ⟨true, fun g => (by cases g)⟩, ?_⟩
 intro g1 hg1
 refine ⟨e, fun _ => ⟨by simp [Ev.av], hu⟩, ⟨true, fun _ g => (by cases g)⟩, ?_⟩
 intro g2 hg2
 refine ⟨fun _ => fin _ _ rfl, fun h => ?_⟩
 obtain ⟨rfl, rfl⟩ : g1 = false ∧ g2 = false := by simpa using h
 have hf := hg1 rfl
 have hs := hg2 rfl rfl
 have hl : l.length ≤ 60 := hf.1
 have hP : evP l := ⟨by omega, hf.2⟩
 clear hg1 hg2 hu hg
 refine ⟨(l, e), ⟨by simp [Ev.av, evS, za], hP, hs⟩, ⟨_, rfl⟩, ?_⟩
 intro r hr
 replace hr : r = appS l e := hr
 refine ⟨fun h => ?_, fun h => ?_⟩
 ·have h : r.2 ≠ 0 := by simpa using h
  rw [hr] at h
  refine fin _ _ ?_
  rw [hr, zam h]; rfl
 ·have h : r.2 = 0 := by simpa using h
  rw [hr] at h
  obtain ⟨s, p1, p2, p3, p4⟩ := Y2 h
  obtain ⟨a, b, k1, k2, k3, k4, k5, k6, k7, k8, k9, k10⟩ := za1 h
  rw [p3] at hr
  subst hr
  have hP2 : evP (l ++ [e]) := ⟨by simp; omega, fun x hx => by
   rcases List.mem_append.1 hx with g | g
   ·exact hf.2 x g
   ·rw [List.mem_singleton.1 g]; exact hs⟩
  have la := yl l 1125899906842624 none
  have lb := yl (l ++ [e]) 1125899906842624 none
  rw [k1] at la
  rw [k2] at lb
  have sb := JT (tm := 1125899906842624) hP2 (by rw [k2])
  rw [k2] at sb
  have ebP : envP b := um (Nat.lt_of_le_of_lt lb.1 (by decide)) (Nat.lt_of_le_of_lt lb.2 (by decide)) sb.1 sb.2
  refine ⟨(l, 1125899906842624), ⟨by simp [evS, za], hP⟩, ⟨_, rfl⟩, ?_⟩
  intro x hx
  replace hx : x = (a, 0) := hx.trans k1
  subst hx
  refine ⟨(l ++ [e], 1125899906842624), ⟨by simp [evS, za], hP2⟩, ⟨_, rfl⟩, ?_⟩
  intro x hx
  replace hx : x = (b, 0) := hx.trans k2
  subst hx
  refine ⟨b, fun _ => ⟨by simp [za], ebP⟩, ⟨_, fun _ => rfl⟩, ?_⟩
  intro z hz
  replace hz : z = 0 := (hz (by simp)).trans k3
  subst hz
  refine ⟨fun g => by simp at g, fun _ => ?_⟩
  replace la : lenE a := la
  replace lb : lenE b := lb
  clear sb hP2 p3 p4
  dsimp only
  refine ⟨fun ht => ⟨fun g => ?_, fun g => ⟨by have := of_decide_eq_true ht; have := of_decide_eq_false g; simp only [inR, lo, hi]; omega, fun _ => ⟨by have := of_decide_eq_true ht; have := of_decide_eq_false g; omega, fun _ => ?_⟩⟩⟩, fun ht => ?_⟩
  ·exfalso
   have ht := of_decide_eq_true ht
   have g := of_decide_eq_true g
   have I := (wv (l := l)).2 s p1
   have hlen := I.ok.len
   rw [I.evs] at hlen
   unfold SS.errA at p2
   split at p2
   ·cases p2
   split at p2
   ·cases p2
   split at p2
   ·cases p2
   have p2 : s.errC e = 0 := by first | exact p2 | rwa [if_pos ht] at p2
   unfold SS.errC at p2
   rw [if_pos (.inl (by rw [hlen]; exact g))] at p2
   cases p2
  ·have ht := of_decide_eq_true ht
   have ei : (e.target - 1).toNat = e.target.toNat - 1 := by omega
   have hfa : l.getD (e.target.toNat - 1) Ev.nil = zo l e := (if_pos ht).symm
   simp only [ei, hfa]
   clear ei hfa p1 p2 g
   refine ⟨(a, (zo l e).zb, (zo l e).name, (zo l e).date), ⟨by simp [za], la⟩, ⟨_, rfl⟩, ?_⟩
   intro u hu
   replace hu : u = qv a (zo l e).zb (zo l e).name (zo l e).date := hu
   refine ⟨(b, (zo l e).zb, (zo l e).name, (zo l e).date), ⟨by simp [za], lb⟩, ⟨_, rfl⟩, ?_⟩
   intro v hv
   replace hv : v = u := by rw [hu, k4]; exact hv
   subst hv
   have hv1 : v.1.length ≤ 1000 := by rw [hu]; exact Nat.le_trans (List.length_filter_le _ _) la.1
   have hv2 : v.2.length ≤ 1000 := by rw [hu]; exact Nat.le_trans (List.length_filter_le _ _) la.2
   refine ⟨(v, v), ⟨by simp [za], Nat.lt_of_le_of_lt hv1 (by decide), Nat.lt_of_le_of_lt hv2 (by decide)⟩, ⟨true, by simp⟩, ?_⟩
   intro c hc
   obtain rfl : c = true := hc.2 rfl
   refine ⟨fun g => by simp at g, fun _ => ?_⟩
   refine ⟨(b, ((zo l e).name, (zo l e).date)), ⟨by simp [za], Nat.lt_of_le_of_lt lb.1 (by decide)⟩, ⟨_, rfl⟩, ?_⟩
   intro fd hfd
   replace hfd : fd = jP b.1 (zo l e).name (zo l e).date := hfd
   refine ⟨(b, ((zo l e).zb, (zo l e).name, (zo l e).date)), ⟨by simp [za], Nat.lt_of_le_of_lt lb.2 (by decide)⟩, ⟨_, rfl⟩, ?_⟩
   intro sd hsd
   replace hsd : sd = qe b.2 (zo l e).zb (zo l e).name (zo l e).date := hsd
   clear hu hv1 hv2 k4
   simp only [inR, lo, hi]
   obtain ⟨la1, la2⟩ := la
   obtain ⟨lb1, lb2⟩ := lb
   refine ⟨by omega, fun _ => ⟨by omega, fun _ => ⟨by omega, fun _ => ⟨fun g => ?_, fun n1 => ⟨fun g => ?_, fun n2 => ⟨fun g => ?_, fun n3 => ⟨fun g => ?_, fun n4 => ?_⟩⟩⟩⟩⟩⟩⟩
   ·obtain ⟨q1, q2⟩ := k5 (of_decide_eq_true g)
    refine fin _ _ ?_
    rw [hfd, q1]
    simp
    omega
   ·obtain ⟨q1, q2⟩ := k6 (of_decide_eq_true g)
    refine fin _ _ ?_
    rw [hsd, q1]
    simp
    omega
   ·obtain ⟨q1, q2⟩ := k7 (of_decide_eq_true g)
    refine fin _ _ ?_
    rw [hfd, q1]
    simp
    omega
   ·obtain ⟨q1, q2⟩ := k8 (of_decide_eq_true g)
    refine fin _ _ ?_
    rw [hsd, q1]
    simp
    omega
   ·have n1 := of_decide_eq_false n1
    have n2 := of_decide_eq_false n2
    have n3 := of_decide_eq_false n3
    have n4 := of_decide_eq_false n4
    have q2 := k9 (by omega)
    refine fin _ _ ?_
    simp
    omega
  ·have ht := of_decide_eq_false ht
   have hfa : zo l e = e := if_neg ht
   rw [hfa] at k4 k5 k6 k7 k8
   refine ⟨(a, e.zb, e.name, e.date), ⟨by simp [za], la⟩, ⟨_, rfl⟩, ?_⟩
   intro u hu
   replace hu : u = qv a e.zb e.name e.date := hu
   refine ⟨(b, e.zb, e.name, e.date), ⟨by simp [za], lb⟩, ⟨_, rfl⟩, ?_⟩
   intro v hv
   replace hv : v = u := by rw [hu, k4]; exact hv
   subst hv
   have hv1 : v.1.length ≤ 1000 := by rw [hu]; exact Nat.le_trans (List.length_filter_le _ _) la.1
   have hv2 : v.2.length ≤ 1000 := by rw [hu]; exact Nat.le_trans (List.length_filter_le _ _) la.2
   refine ⟨(v, v), ⟨by simp [za], Nat.lt_of_le_of_lt hv1 (by decide), Nat.lt_of_le_of_lt hv2 (by decide)⟩, ⟨true, by simp⟩, ?_⟩
   intro c hc
   obtain rfl : c = true := hc.2 rfl
   refine ⟨fun g => by simp at g, fun _ => ?_⟩
   refine ⟨(b, (e.name, e.date)), ⟨by simp [za], Nat.lt_of_le_of_lt lb.1 (by decide)⟩, ⟨_, rfl⟩, ?_⟩
   intro fd hfd
   replace hfd : fd = jP b.1 e.name e.date := hfd
   refine ⟨(b, (e.zb, e.name, e.date)), ⟨by simp [za], Nat.lt_of_le_of_lt lb.2 (by decide)⟩, ⟨_, rfl⟩, ?_⟩
   intro sd hsd
   replace hsd : sd = qe b.2 e.zb e.name e.date := hsd
   clear hu hv1 hv2 k4
   simp only [inR, lo, hi]
   obtain ⟨la1, la2⟩ := la
   obtain ⟨lb1, lb2⟩ := lb
   refine ⟨by omega, fun _ => ⟨by omega, fun _ => ⟨by omega, fun _ => ⟨fun g => ?_, fun n1 => ⟨fun g => ?_, fun n2 => ⟨fun g => ?_, fun n3 => ⟨fun g => ?_, fun n4 => ?_⟩⟩⟩⟩⟩⟩⟩
   ·obtain ⟨q1, q2⟩ := k5 (of_decide_eq_true g)
    refine fin _ _ ?_
    rw [hfd, q1]
    simp
    omega
   ·obtain ⟨q1, q2⟩ := k6 (of_decide_eq_true g)
    refine fin _ _ ?_
    rw [hsd, q1]
    simp
    omega
   ·obtain ⟨q1, q2⟩ := k7 (of_decide_eq_true g)
    refine fin _ _ ?_
    rw [hfd, q1]
    simp
    omega
   ·obtain ⟨q1, q2⟩ := k8 (of_decide_eq_true g)
    refine fin _ _ ?_
    rw [hsd, q1]
    simp
    omega
   ·have n1 := of_decide_eq_false n1
    have n2 := of_decide_eq_false n2
    have n3 := of_decide_eq_false n3
    have n4 := of_decide_eq_false n4
    have q2 := k9 (by omega)
    refine fin _ _ ?_
    simp
    omega
end Go.Proofs.Try
end

/- From a reading of the arguments to their representation; from a contract to a call. -/
section
namespace Go.Sx
variable [Stat]
open Go.RowKit (Below)
def E0 : Nat → Prop := Own (fun _ => False) []
theorem zd1 (b : Nat) : ¬ E0 b := by
 rintro (h | ⟨e, he, _⟩)
 ·exact h
 ·simp at he
def Tw (P : Program) (W : World) (t : TypeId) (cs : List Value) : Prop := ∃ (H : Type) (enc : TypeId × Value → H) (base fuel : Nat) (d : DataW H) (ps : List MemPlace), DataW.trod enc P W base (fun _ => true) true fuel t cs = some (d, ps) ∧ ∀ n ∈ d.weights P t, n ≤ reachBytes
section
variable {P : Program} {W : World} {t e : TypeId} {cs : List Value}
theorem V0 (ht : P.underlying t = some .string) (h : Tw P W t cs) : ∃ s : List UInt8, cs = [.string ⟨s.toArray⟩] ∧ s.length ≤ reachBytes := by
 obtain ⟨H, enc, base, fuel, d, ps, h, hw⟩ := h
 obtain ⟨s, rfl, hx, _⟩ := DataW.trod_string ht h
 cases hx
 exact ⟨s.data.toList, by simp, hw _ (by simp [DataW.weights])⟩
theorem uY {k : IntKind} (ht : P.underlying t = some (.int k)) (h : Tw P W t cs) : ∃ n, cs = [.int k n] ∧ (Lit.int k n).wf = true := by
 obtain ⟨H, enc, base, fuel, d, ps, h, hw⟩ := h
 obtain ⟨n, rfl, hx, hwf⟩ := DataW.trod_int ht h
 exact ⟨n, rfl, hwf⟩
theorem zac (ht : P.underlying t = some .bool) (h : Tw P W t cs) : ∃ b, cs = [.bool b] := by
 obtain ⟨H, enc, base, fuel, d, ps, h, hw⟩ := h
 obtain ⟨b, rfl, hx⟩ := DataW.trod_bool ht h
 exact ⟨b, rfl⟩
theorem Q7 {fs : Array Field} (ht : P.underlying t = some (.struct fs)) (h : Tw P W t cs) : cs.length = P.cellsOf t ∧ ∀ (i : Nat) (f : Field), fs[i]? = some f → Tw P W f.type ((cs.drop f.offset).take (P.cellsOf f.type)) := by
 obtain ⟨H, enc, base, fuel, d, ps, h, hw⟩ := h
 obtain ⟨xs, n, _, hx, hl, hlen, hf⟩ := DataW.trod_struct ht h
 cases hx
 refine ⟨hl, fun i f hfi => ?_⟩
 have hi := hf i f hfi
 have hlt : i < xs.length := by
  rw [hlen]; exact (Array.getElem?_eq_some_iff.1 hfi).1
 rw [List.getElem?_eq_getElem hlt] at hi
 refine ⟨H, enc, base, n, xs[i].1, xs[i].2, hi, fun m hm => hw m ?_⟩
 simp only [DataW.weights, ht]
 exact DataW.weights_mem_each (j := i) (t := f.type) (d := xs[i].1) (by simp [hfi]) (by simp [hlt]) m hm
theorem vY {H : Type} {d : DataW H} : ∀ {l : List (DataW H)}, d ∈ l → ∀ n ∈ d.weights P e, n ∈ DataW.weightsAll P e l
 | x :: l, hd, n, hn => by
  simp only [DataW.weightsAll, List.mem_append]
  rcases List.mem_cons.1 hd with rfl | hd
  ·exact .inl hn
  ·exact .inr (vY hd n hn)
theorem Yv (ht : P.underlying t = some (.slice e)) (h : Tw P W t cs) : cs = [.slice none 0 0] ∨ ∃ (a : Addr) (len cap : Nat), cs = [.slice (some a) len cap] ∧ len ≤ cap ∧ cap * P.bytesOf e ≤ reachBytes ∧
  ∀ i, i < len → ∃ cs', cs'.length = P.cellsOf e ∧ (∀ o, o < P.cellsOf e → W.cell? ((a.add (i * P.cellsOf e)).add o) = cs'[o]?) ∧ Tw P W e cs' := by
 obtain ⟨H, enc, base, fuel, d, ps, h, hw⟩ := h
 rcases DataW.trod_slice ht h with ⟨rfl, _⟩ | ⟨a, len, cap, elems, rest, n, _, rfl, hx, hb, hl, hm, hlen, hel, hsp, _⟩
 ·exact .inl rfl
 ·right
  cases hx
  obtain ⟨hrl, _⟩ := hsp rfl
  simp only [DataW.weights, ht] at hw
  refine ⟨a, len, cap, rfl, hl, ?_, fun i hi => ?_⟩
  ·have := hw _ (List.mem_cons_self)
   simp only [List.length_map, hlen, hrl] at this
   rwa [show len + (cap - len) = cap by omega] at this
  ·have h1 := hel i hi
   have hlt : i < elems.length := by rw [hlen]; exact hi
   rw [List.getElem?_eq_getElem hlt, Option.bind_eq_some_iff] at h1
   obtain ⟨cs', h2, h3⟩ := h1
   obtain ⟨_, h4, h5⟩ := World.cells?_some h2
   refine ⟨cs', h4, h5, H, enc, base, n, elems[i].1, elems[i].2, h3, fun m hm2 => hw m ?_⟩
   simp only [List.mem_cons, List.mem_append]
   exact .inr (.inl (vY (d := elems[i].1) (List.mem_map.2 ⟨elems[i], List.getElem_mem hlt, rfl⟩) m hm2))
theorem KL {α : Type} (z : α) (cell : α → Nat → AV) (good : α → Prop) {sz : Nat} (ht : P.underlying t = some (.slice e)) (hsz : P.cellsOf e = sz) (hpos : 0 < sz)
  (hel : ∀ cs', Tw P W e cs' → ∃ x : α, good x ∧ ∀ o, o < sz → ∃ c, cs'[o]? = some c ∧ c.oneCell' = true ∧ Rep E0 W (cell x o) [] c) (h : Tw P W t cs) :
  ∃ (l : List α) (v : Value), cs = [v] ∧ (∀ x ∈ l, good x) ∧ l.length * P.bytesOf e ≤ reachBytes ∧ v.oneCell' = true ∧ Rep E0 W (.sl l.length sz fun j => cell (l.getD j z)) [] v := by
 rcases Yv ht h with rfl | ⟨a, len, cap, rfl, hl, hw, hx⟩
 ·refine ⟨[], _, rfl, by simp, by simp, rfl, ?_⟩
  simp only [Rep]
  exact ⟨none, 0, rfl, Nat.le_refl _, .inl rfl⟩
 ·rw [hsz] at hx
  have hx2 : ∀ i, ∃ x : α, i < len → good x ∧ ∀ o, o < sz → ∃ c, W.cell? ((a.add (i * sz)).add o) = some c ∧ c.oneCell' = true ∧ Rep E0 W (cell x o) [] c := fun i => by
   by_cases hi : i < len
   ·obtain ⟨cs', h1, h2, h3⟩ := hx i hi
    obtain ⟨x, hg, hc⟩ := hel cs' h3
    exact ⟨x, fun _ => ⟨hg, fun o ho => by
     obtain ⟨c, g1, g2, g3⟩ := hc o ho
     exact ⟨c, by rw [h2 o ho, g1], g2, g3⟩⟩⟩
   ·exact ⟨z, fun h => absurd h hi⟩
  obtain ⟨f, hf⟩ := Classical.axiomOfChoice hx2
  have hgd : ∀ j, j < len → ((List.range len).map f).getD j z = f j := fun j hj => by simp [List.getD, hj]
  refine ⟨(List.range len).map f, _, rfl, fun x hxm => ?_, ?_, rfl, ?_⟩
  ·obtain ⟨i, hi, rfl⟩ := List.mem_map.1 hxm
   exact (hf i (List.mem_range.1 hi)).1
  ·simp only [List.length_map, List.length_range]
   exact Nat.le_trans (Nat.mul_le_mul_right _ hl) hw
  ·simp only [Rep, List.length_map, List.length_range]
   refine ⟨some a, cap, rfl, hl, ?_⟩
   rcases Nat.eq_zero_or_pos len with h0 | h0
   ·exact .inl h0
   ·right
    have hspot : a.spot = none := by
     obtain ⟨c, g1, _⟩ := (hf 0 h0).2 0 hpos
     have := World.cell?_spot g1
     simpa [Addr.add] using this
    refine ⟨a, rfl, hspot, fun j o hj ho => ⟨zd1 _, ?_⟩⟩
    obtain ⟨c, g1, g2, g3⟩ := (hf j hj).2 o ho
    refine ⟨c, ?_, g2, by rw [hgd j hj]; exact g3⟩
    rw [← g1]
    obtain ⟨b, off, spot⟩ := a
    simp only at hspot
    subst hspot
    congr 1
    simp only [Addr.add]
    split <;> split <;> simp_all <;> omega
theorem Xx {g : Nat} {fn : Func} {c : Code} (hf : P.funcs[g]? = some fn) (hb : fn.body = some c) (hn : (fn.name == "runtime.NumGoroutine") = false) {ctr : Ctr} (hok : zd P g ctr) {args : List AV} {vals : List Value}
  (hspec : (ctr.spec args []).holds fun r => r = (.bool true, [])) (hr : RepL E0 W args [] vals) (hst : wW E0 W) : Calls P g vals.toArray W fun e W' => e = .returned (.bool true) ∧ Below W.heap.size W W' := by
 have hn' : ¬ fn.name = "runtime.NumGoroutine" := by simpa using hn
 have hg : Good (fun _ => False) W [] := ⟨fun b h => h.elim, fun i e ad he => by simp at he, hst⟩
 have hh : HRep (Own (fun _ => False) []) W [] [] := ⟨rfl, fun i j e f a b he => by simp at he, fun i e a he => by simp at he, fun i e b he => by simp at he⟩
 rcases hok args [] _ hspec (fun _ => rfl) (fun _ => False) W [] vals hg hh hr with ⟨_, h⟩ | ⟨v, w', h, _⟩
 ·refine h.mono ?_
  rintro e W' ⟨v, rfl, r, hs, σ', hq, h1, _, _, _, _, hx⟩
  cases hq
  simp only [Rep] at h1
  subst h1
  exact ⟨rfl, hx.os, hx.tape, hx.output, hx.size, fun k hk => hx.keep k hk fun ⟨e, he, _⟩ => by simp at he⟩
 ·simp [callFunc, hf, hn', hb] at h
end
end Go.Sx
end

/- Recursive data as arguments; package-level maps that read as they are laid. -/
section
namespace Go.Sx
variable [Stat]
def TwN (P : Program) (W : World) (fuel : Nat) (t : TypeId) (cs : List Value) : Prop := ∃ (H : Type) (enc : TypeId × Value → H) (base : Nat) (d : DataW H) (ps : List MemPlace), DataW.trod enc P W base (fun _ => true) true fuel t cs = some (d, ps) ∧ ∀ n ∈ d.weights P t, n ≤ reachBytes
section
variable {P : Program} {W : World} {t e : TypeId} {cs : List Value}
theorem TwN.tw {fuel : Nat} (h : TwN P W fuel t cs) : Tw P W t cs := by
 obtain ⟨H, enc, base, d, ps, h, hw⟩ := h
 exact ⟨H, enc, base, fuel, d, ps, h, hw⟩
end
section
open Go.WideElems Go.ChangeMaps
variable {H : Type} {enc : TypeId × Value → H} {P : Program} {W : World} {base : Nat} {sp : Nat → Bool} {held : Bool}
end
end Go.Sx
end

/- What rows hand to laws about logs: arguments as data. -/
section
set_option maxRecDepth 100000
namespace Go.Proofs.Ythhkojokgcngnaa
open Go Go.Sx Go.Nov Go.Proofs.Try Go.ChangeShapes Go.WideShapes Go.ChangeAt Go.RowKit
theorem Q0 : Try.prog.cellsOf 9 = 1 := by kernel_rfl
theorem X8 : Try.prog.cellsOf 25 = 1 := by kernel_rfl
theorem kM : Try.prog.cellsOf 3 = 1 := by kernel_rfl
theorem YZ : Try.prog.cellsOf 5 = 1 := by kernel_rfl
theorem Vp : Try.prog.cellsOf 4 = 1 := by kernel_rfl
theorem J8 : Try.prog.cellsOf 27 = 9 := by kernel_rfl
theorem Xd : Try.prog.cellsOf 22 = 1 := by kernel_rfl
theorem KG : Try.prog.cellsOf 24 = 1 := by kernel_rfl
theorem JH {W : World} {cs : List Value} (h : Tw Try.prog W 27 cs) : ∃ x : Ev, (x.zb.length ≤ reachBytes ∧ x.name.length ≤ reachBytes ∧ x.value.length ≤ reachBytes) ∧ cs = [.int .u8 x.kind, .int .i64 x.id, .int .i64 x.entry, .int .i64 x.target, .int .i64 x.date, .string ⟨x.zb.toArray⟩, .string ⟨x.name.toArray⟩, .string ⟨x.value.toArray⟩, .bool x.first] := by
 obtain ⟨hl, hf⟩ := Q7 Try.underlying27 h
 rw [J8] at hl
 match cs, hl with
 | [a, b, c, d, e, f, g, h, i], _ =>
  have h0 : Tw Try.prog W 5 (([a, b, c, d, e, f, g, h, i].drop 0).take (Try.prog.cellsOf 5)) := hf 0 _ rfl
  rw [YZ] at h0
  replace h0 : Tw Try.prog W 5 [a] := h0
  have h1 : Tw Try.prog W 3 (([a, b, c, d, e, f, g, h, i].drop 1).take (Try.prog.cellsOf 3)) := hf 1 _ rfl
  rw [kM] at h1
  replace h1 : Tw Try.prog W 3 [b] := h1
  have h2 : Tw Try.prog W 3 (([a, b, c, d, e, f, g, h, i].drop 2).take (Try.prog.cellsOf 3)) := hf 2 _ rfl
  rw [kM] at h2
  replace h2 : Tw Try.prog W 3 [c] := h2
  have h3 : Tw Try.prog W 3 (([a, b, c, d, e, f, g, h, i].drop 3).take (Try.prog.cellsOf 3)) := hf 3 _ rfl
  rw [kM] at h3
  replace h3 : Tw Try.prog W 3 [d] := h3
  have h4 : Tw Try.prog W 3 (([a, b, c, d, e, f, g, h, i].drop 4).take (Try.prog.cellsOf 3)) := hf 4 _ rfl
  rw [kM] at h4
  replace h4 : Tw Try.prog W 3 [e] := h4
  have h5 : Tw Try.prog W 9 (([a, b, c, d, e, f, g, h, i].drop 5).take (Try.prog.cellsOf 9)) := hf 5 _ rfl
  rw [Q0] at h5
  replace h5 : Tw Try.prog W 9 [f] := h5
  have h6 : Tw Try.prog W 9 (([a, b, c, d, e, f, g, h, i].drop 6).take (Try.prog.cellsOf 9)) := hf 6 _ rfl
  rw [Q0] at h6
  replace h6 : Tw Try.prog W 9 [g] := h6
  have h7 : Tw Try.prog W 25 (([a, b, c, d, e, f, g, h, i].drop 7).take (Try.prog.cellsOf 25)) := hf 7 _ rfl
  rw [X8] at h7
  replace h7 : Tw Try.prog W 25 [h] := h7
  have h8 : Tw Try.prog W 4 (([a, b, c, d, e, f, g, h, i].drop 8).take (Try.prog.cellsOf 4)) := hf 8 _ rfl
  rw [Vp] at h8
  replace h8 : Tw Try.prog W 4 [i] := h8
  obtain ⟨x0, y0, w0⟩ := uY Try.underlying5 h0
  obtain ⟨x1, y1, w1⟩ := uY Try.underlying3 h1
  obtain ⟨x2, y2, w2⟩ := uY Try.underlying3 h2
  obtain ⟨x3, y3, w3⟩ := uY Try.underlying3 h3
  obtain ⟨x4, y4, w4⟩ := uY Try.underlying3 h4
  obtain ⟨x5, y5, w5⟩ := V0 Try.underlying9 h5
  obtain ⟨x6, y6, w6⟩ := V0 Try.underlying9 h6
  obtain ⟨x7, y7, w7⟩ := V0 Try.underlying25 h7
  obtain ⟨x8, y8⟩ := zac Try.underlying4 h8
  cases y0; cases y1; cases y2; cases y3; cases y4; cases y5; cases y6; cases y7; cases y8
  exact ⟨⟨x0, x1, x2, x3, x4, x5, x6, x7, x8⟩, ⟨w5, w6, w7⟩, rfl⟩
theorem zbz {W : World} {cs : List Value} (h : Tw Try.prog W 27 cs) : ∃ x : Ev, Qh x ∧ Rep E0 W x.av [] (.agg cs.toArray) := by
 obtain ⟨x, hx, rfl⟩ := JH h
 have hr := reachBytes_lt
 refine ⟨x, ⟨by omega, by omega, by omega⟩, ?_⟩
 simp only [RepL, Rep, Ev.av]
 exact ⟨_, rfl, _, _, rfl, rfl, _, _, rfl, rfl, _, _, rfl, rfl, _, _, rfl, rfl, _, _, rfl, rfl, _, _, rfl, rfl, _, _, rfl, rfl, _, _, rfl, rfl, _, _, rfl, rfl, rfl⟩
theorem KS {W : World} {cs : List Value} (h : Tw Try.prog W 24 cs) : ∃ l : List Ev, KD l ∧ Rep E0 W (.agg [evS l]) [] (.agg cs.toArray) := by
 obtain ⟨hl, hf⟩ := Q7 Try.underlying24 h
 rw [KG] at hl
 match cs, hl with
 | [a], _ =>
  have h0 : Tw Try.prog W 22 (([a].drop 0).take (Try.prog.cellsOf 22)) := hf 0 _ rfl
  rw [Xd] at h0
  replace h0 : Tw Try.prog W 22 [a] := h0
  obtain ⟨l, v, e1, gl, wl, _, rl⟩ := KL Ev.nil Ev.cell (fun x => x.zb.length ≤ reachBytes ∧ x.name.length ≤ reachBytes ∧ x.value.length ≤ reachBytes) Try.underlying22 J8 (by decide) (fun cs' h' => by
   obtain ⟨x, hx, rfl⟩ := JH h'
   refine ⟨x, hx, fun o ho => ?_⟩
   match o, ho with
   | 0, _ => exact ⟨_, rfl, rfl, by simp [Rep, Ev.cell]⟩
   | 1, _ => exact ⟨_, rfl, rfl, by simp [Rep, Ev.cell]⟩
   | 2, _ => exact ⟨_, rfl, rfl, by simp [Rep, Ev.cell]⟩
   | 3, _ => exact ⟨_, rfl, rfl, by simp [Rep, Ev.cell]⟩
   | 4, _ => exact ⟨_, rfl, rfl, by simp [Rep, Ev.cell]⟩
   | 5, _ => exact ⟨_, rfl, rfl, by simp [Rep, Ev.cell]⟩
   | 6, _ => exact ⟨_, rfl, rfl, by simp [Rep, Ev.cell]⟩
   | 7, _ => exact ⟨_, rfl, rfl, by simp [Rep, Ev.cell]⟩
   | 8, _ => exact ⟨_, rfl, rfl, by simp [Rep, Ev.cell]⟩) h0
  have b1 : Try.prog.bytesOf 27 = 96 := by kernel_rfl
  rw [b1] at wl
  have hr := reachBytes_lt
  refine ⟨l, ⟨by omega, fun j hj => ?_⟩, ?_⟩
  ·have := gl (l.getD j Ev.nil) (by simp [List.getD, hj])
   exact ⟨by omega, by omega, by omega⟩
  ·simp only [RepL, Rep]
   cases e1
   exact ⟨_, rfl, _, _, rfl, rl, rfl⟩
end Go.Proofs.Ythhkojokgcngnaa
end

/- For every input the law returns true, and each argument reads behind the call as it read before. -/
section
set_option maxRecDepth 100000
namespace Go.Proofs.Ythhkojokgcngnaa
open Go Go.Sx Go.Nov Go.Proofs.Try Go.ChangeShapes Go.WideShapes Go.ChangeAt Go.RowKit
theorem walk {W : World} {v0 v1 : List Value} (h0 : Tw Try.prog W 24 v0) (h1 : Tw Try.prog W 27 v1) :
  Calls Try.prog 7 #[.agg v0.toArray, .agg v1.toArray] W fun e W' => e = .returned (.bool true) ∧ Below W.heap.size W W' := by
 obtain ⟨l, lg, lr⟩ := KS h0
 obtain ⟨e, eg, er⟩ := zbz h1
 refine Xx (fn := Try.f7) (c := Try.f7.body.getD .skip) rfl rfl rfl Ub (args := [.agg [evS l], e.av]) (vals := [.agg v0.toArray, .agg v1.toArray]) ?_ ?_ Xq
 ·refine ⟨(l, e), ⟨?_, ⟨lg, eg⟩⟩, ⟨true, rfl⟩, ?_⟩
  ·simp [eqL, eqA, eqA0, eqL0, envA, fxS, chS, Fx.av, Ch.av, Ex.exA, Ex.exS, evS,Ev.av, za]
  ·rintro _ rfl
   rfl
 ·exact ⟨_, _, rfl, lr, ⟨_, _, rfl, er, rfl⟩⟩
theorem own : ownKnob Try.prog.godebug = none := by kernel_rfl
theorem laid : laidOutB Try.prog = true := by kernel_rfl
theorem lifted (os : Os) (started : os.Started) (H : Type) (enc : TypeId × Value → H) :
  ReturnsInHanded {} Try.checked os 7 .any (Rows.storeNowSpec.pre6 enc Try.prog Try.f7 Rows.storeNowRow.domain false) (Rows.storeNowSpec.post enc Try.prog Try.f7 false true false false) := by
 refine returnsInHanded_of_change_sized (C := Try.checked) own started (by kernel_rfl) Try.func7
  (ChangeSpec.witness6 (enc := enc) (C := Try.checked) false ⟨#[], #[.agg #[.slice none 0 0], .agg #[.int .u8 0, .int .i64 0, .int .i64 0, .int .i64 0, .int .i64 0, .string ⟨#[]⟩, .string ⟨#[]⟩, .string ⟨#[]⟩, .bool false]], []⟩ 8 (by kernel_rfl) (by kernel_rfl) (by kernel_rfl) (by kernel_rfl)) ?_
 intro W base args ds gs before hval0 hW hcnd hwt _
 have hval : ∀ (j : Nat) t v, Try.f7.params[j]? = some t → args[j]? = some v → Value.okWide Try.prog W .any base t v := hval0
 have hW' := hW
 obtain ⟨p, q, hA0, hV, rfl, hfz, hnd⟩ := hW
 have hA : DataW.TrodAll enc Try.prog W 0 (fun _ => true) true Try.f7.params.toList args.toList ds p := hA0
 rw [Try.params7] at hA hval
 obtain ⟨v0, vs0, d0, ds0, p0, q0, hargs, rfl, rfl, h0, r0⟩ := trodAll_cons hA
 obtain ⟨v1, vs1, d1, ds1, p1, q1, rfl, rfl, rfl, h1, r1⟩ := trodAll_cons r0
 obtain ⟨rfl, rfl, rfl⟩ := trodAll_nil r1
 obtain rfl : args = #[v0, v1] := by cases args; simp_all
 obtain ⟨rfl, rfl⟩ := trodVars_none hV
 clear hA0 hval0
 simp only [List.append_nil] at hW' hwt
 have hw : ∀ (j : Nat) (t : TypeId) (d : DataW H), [24, 27][j]? = some t → [d0, d1][j]? = some d → ∀ n ∈ d.weights Try.prog t, n ≤ reachBytes := fun j t d ht hd n hn => by
  have := List.all_eq_true.1 hwt n (DataW.weights_mem_each (j := j) (t := t) (d := d) (by exact ht) (by exact hd) n hn)
  simpa using this
 obtain ⟨c0, rfl, _⟩ := okWide_struct Try.underlying24 (hval 0 24 v0 rfl rfl)
 obtain ⟨c1, rfl, _⟩ := okWide_struct Try.underlying27 (hval 1 27 v1 rfl rfl)
 have t0 : Tw Try.prog W 24 c0.toList := by
  obtain ⟨fuel, hf⟩ := h0
  exact ⟨H, enc, 0, fuel, d0, p0, by simpa [Value.cells] using hf, hw 0 _ d0 rfl rfl⟩
 have t1 : Tw Try.prog W 27 c1.toList := by
  obtain ⟨fuel, hf⟩ := h1
  exact ⟨H, enc, 0, fuel, d1, p1, by simpa [Value.cells] using hf, hw 1 _ d1 rfl rfl⟩
 have hlt : ∀ x ∈ p0 ++ p1, x.block < W.heap.size := fun x hx => by simpa using hW'.lt x (by simpa using hx)
 have hcall := walk t0 t1
 simp only [Array.toArray_toList] at hcall
 refine hcall.mono fun e W' ⟨he, hb⟩ => ?_
 subst he
 refine ⟨_, rfl, _, _, _, [], p0 ++ p1, [], hW', trodAll_mk1 (shut_bool Try.underlying4 true), ?_, rfl, hb.frame _, fun h => by cases h⟩
 exact trodAll_mk2 (Below.trod laid (by kernel_rfl) (of_decide_eq_true (by kernel_rfl)) h0 hb fun x hx => hlt x (by simp [hx])) (Below.trod laid (by kernel_rfl) (of_decide_eq_true (by kernel_rfl)) h1 hb fun x hx => hlt x (by simp [hx]))
theorem over : Rows.storeNowRow.holds Try.pinned (OpenSpec.ofChange Rows.storeNowSpec) :=
 OpenClaim.holds_of_wide 7 Try.f7 rfl rfl rfl rfl rfl rfl rfl ⟨rfl, rfl, rfl, rfl, rfl⟩ rfl rfl rfl rfl rfl (by kernel_rfl) Try.func7 (by kernel_rfl)
  (of_decide_eq_true (by kernel_rfl)) (by unfold Func.isWrapper; first | (rw [if_pos (by decide +kernel)]; kernel_rfl) | (rw [if_neg (by decide +kernel)]; exact ⟨rfl, rfl⟩))
  (fun os started H enc _ => lifted os started H enc)
theorem storeNow_holds : Rows.StoreNowSaid := over
end Go.Proofs.Ythhkojokgcngnaa
end
