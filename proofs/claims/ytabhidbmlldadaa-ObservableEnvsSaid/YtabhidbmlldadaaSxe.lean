/- The law returns true for every input, and each argument reads afterwards as it read before; no condition. -/
import Derived.Test.YtabhidbmlldadaaSxd
import Derived.Shelf.Spec.SlicesInsertGrow
import Derived.Test.YtabhidbmlldadaaProg
import Derived.Deep.LoopGhost
import Derived.Test.YtabhidbmlldadaaRows
import Derived.ProofKit
import Derived.OpenShut
import Derived.ReadAgain
/- What is known: the reference's copies and places. -/
section
set_option linter.unusedVariables false
set_option linter.unusedSimpArgs false
set_option maxRecDepth 100000
open Go Go.Sx Go.Proofs Go.Nov
namespace Go.Proofs.Try
attribute [local simp] eqKV eqA eqA0 eqH eqB eqL eqL0
noncomputable def K5 : List Go.Sx.Item := [.code (Try.f5.body.getD .skip)]
noncomputable def K7 : List Go.Sx.Item := [.code (Try.f7.body.getD .skip)]
noncomputable def K9 : List Go.Sx.Item := [.code (Try.f9.body.getD .skip)]

def twinC : Ctr := ctrP true (fun p : List Fx × List Ch => [envA p.1 p.2]) (fun p => p.1.length < 2 ^ 40 ∧ p.2.length < 2 ^ 40) (fun p (_ : Unit) => True) (fun p (_ : Unit) => (.agg [.osl 0 3 0 p.1.length, .osl 1 4 0 p.2.length], [.arr p.1.length 3 (fxG p.1), .arr p.2.length 4 (chG p.2)]))
theorem newB_fx {n : Nat} {g : Nat → Nat → AV} {l : List Fx} (h : eqG n 3 g (fxG l)) : newB (.arr n 3 g) := fun j o hj ho => by rw [h j o hj ho]; exact fx_scal l j o ho
theorem newB_ch {n : Nat} {g : Nat → Nat → AV} {l : List Ch} (h : eqG n 4 g (chG l)) : newB (.arr n 4 g) := fun j o hj ho => by rw [h j o hj ho]; exact ch_scal l j o ho
theorem twin_ok : CtrOK Try.prog 5 twinC := by
  refine fn_ctrP (fn := Try.f5) (c := Try.f5.body.getD .skip) rfl rfl rfl fun p hp O w0 Q hq => ?_
  obtain ⟨f, c⟩ := p
  obtain ⟨h1, h2⟩ := hp
  replace hq := hq () trivial
  simp only at hq h1 h2
  refine SafeK.run (k := K5) hmix noG_ok [] 400 (T := Tree.all (fun (x : Bool) => True) fun (n : Bool) => Tree.ite n (Tree.all (fun (x : Bool) => True) fun (n : Bool) => Tree.ite n (Tree.side ((0 : Nat) = (0 : Nat) ∧ (0 : Nat) ≤ (0 : Nat) ∧ ((0 : Nat) + List.length f) * (40 : Nat) ≤ (140737488355328 : Nat)) (Tree.side ((0 : Nat) = (0 : Nat) ∧ (0 : Nat) ≤ (0 : Nat) ∧ ((0 : Nat) + List.length c) * (48 : Nat) ≤ (140737488355328 : Nat)) (Tree.leaf (Leaf2.ret [AV.agg [AV.osl (2 : Nat) (3 : Nat) (0 : Nat) ((0 : Nat) + List.length f), AV.osl (3 : Nat) (4 : Nat) (0 : Nat) ((0 : Nat) + List.length c)]] [Blk.box [AV.sl (List.length f) (3 : Nat) (fxG f), AV.sl (List.length c) (4 : Nat) (chG c)], Blk.box [AV.osl (2 : Nat) (3 : Nat) (0 : Nat) ((0 : Nat) + List.length f), AV.osl (3 : Nat) (4 : Nat) (0 : Nat) ((0 : Nat) + List.length c)], Blk.arr ((0 : Nat) + List.length f) (3 : Nat) (appG (0 : Nat) (listG (3 : Nat) []) (fxG f)), Blk.arr ((0 : Nat) + List.length c) (4 : Nat) (appG (0 : Nat) (listG (4 : Nat) []) (chG c))])))) (Tree.side ((0 : Nat) = (0 : Nat) ∧ (0 : Nat) ≤ (0 : Nat) ∧ ((0 : Nat) + List.length f) * (40 : Nat) ≤ (140737488355328 : Nat)) (Tree.side ((0 : Nat) = (0 : Nat) ∧ (0 : Nat) ≤ (0 : Nat) ∧ ((0 : Nat) + List.length c) * (48 : Nat) ≤ (140737488355328 : Nat)) (Tree.leaf (Leaf2.ret [AV.agg [AV.osl (2 : Nat) (3 : Nat) (0 : Nat) ((0 : Nat) + List.length f), AV.osl (3 : Nat) (4 : Nat) (0 : Nat) ((0 : Nat) + List.length c)]] [Blk.box [AV.sl (List.length f) (3 : Nat) (fxG f), AV.sl (List.length c) (4 : Nat) (chG c)], Blk.box [AV.osl (2 : Nat) (3 : Nat) (0 : Nat) ((0 : Nat) + List.length f), AV.osl (3 : Nat) (4 : Nat) (0 : Nat) ((0 : Nat) + List.length c)], Blk.arr ((0 : Nat) + List.length f) (3 : Nat) (appG (0 : Nat) (listG (3 : Nat) []) (fxG f)), Blk.arr ((0 : Nat) + List.length c) (4 : Nat) (appG (0 : Nat) (listG (4 : Nat) []) (chG c))]))))) (Tree.side ((0 : Nat) = (0 : Nat) ∧ (0 : Nat) ≤ (0 : Nat) ∧ ((0 : Nat) + List.length f) * (40 : Nat) ≤ (140737488355328 : Nat)) (Tree.side ((0 : Nat) = (0 : Nat) ∧ (0 : Nat) ≤ (0 : Nat) ∧ ((0 : Nat) + List.length c) * (48 : Nat) ≤ (140737488355328 : Nat)) (Tree.leaf (Leaf2.ret [AV.agg [AV.osl (3 : Nat) (3 : Nat) (0 : Nat) ((0 : Nat) + List.length f), AV.osl (2 : Nat) (4 : Nat) (0 : Nat) ((0 : Nat) + List.length c)]] [Blk.box [AV.sl (List.length f) (3 : Nat) (fxG f), AV.sl (List.length c) (4 : Nat) (chG c)], Blk.box [AV.osl (3 : Nat) (3 : Nat) (0 : Nat) ((0 : Nat) + List.length f), AV.osl (2 : Nat) (4 : Nat) (0 : Nat) ((0 : Nat) + List.length c)], Blk.arr ((0 : Nat) + List.length c) (4 : Nat) (appG (0 : Nat) (listG (4 : Nat) []) (chG c)), Blk.arr ((0 : Nat) + List.length f) (3 : Nat) (appG (0 : Nat) (listG (3 : Nat) []) (fxG f))]))))) (by kernel_rfl) ?_
  simp only [Tree.holds, Leafs2]
  have e1 : eqG (0 + f.length) 3 (appG 0 (listG 3 []) (fxG f)) (fxG f) := eqG_app0 _ _ _ _
  have e2 : eqG (0 + c.length) 4 (appG 0 (listG 4 []) (chG c)) (chG c) := eqG_app0 _ _ _ _
  refine ⟨⟨true, trivial⟩, fun _ _ => ⟨fun _ => ⟨⟨true, trivial⟩, fun _ _ => ⟨fun _ => ?_, fun _ => ?_⟩⟩, fun _ => ?_⟩⟩
  · refine ⟨⟨trivial, Nat.le_refl _, by omega⟩, fun _ => ⟨⟨trivial, Nat.le_refl _, by omega⟩, fun _ => ?_⟩⟩
    refine RetR.outs [2, 3] rfl rfl hq (fun _ => ⟨?_, ?_⟩) ?_ ?_ rfl
    · simp [resV, new2, new1, new0, posIn]
    · simp only [List.mem_cons, List.not_mem_nil, or_false, forall_eq_or_imp, forall_eq]
      exact ⟨newB_fx e1, newB_ch e2⟩
    · simp [resV, exp2, exp1, exp0, posIn, eqA2, eqL1]
    · exact ⟨⟨by omega, rfl, e1⟩, ⟨by omega, rfl, e2⟩, trivial⟩
  · refine ⟨⟨trivial, Nat.le_refl _, by omega⟩, fun _ => ⟨⟨trivial, Nat.le_refl _, by omega⟩, fun _ => ?_⟩⟩
    refine RetR.outs [2, 3] rfl rfl hq (fun _ => ⟨?_, ?_⟩) ?_ ?_ rfl
    · simp [resV, new2, new1, new0, posIn]
    · simp only [List.mem_cons, List.not_mem_nil, or_false, forall_eq_or_imp, forall_eq]
      exact ⟨newB_fx e1, newB_ch e2⟩
    · simp [resV, exp2, exp1, exp0, posIn, eqA2, eqL1]
    · exact ⟨⟨by omega, rfl, e1⟩, ⟨by omega, rfl, e2⟩, trivial⟩
  · refine ⟨⟨trivial, Nat.le_refl _, by omega⟩, fun _ => ⟨⟨trivial, Nat.le_refl _, by omega⟩, fun _ => ?_⟩⟩
    refine RetR.outs [3, 2] rfl rfl hq (fun _ => ⟨?_, ?_⟩) ?_ ?_ rfl
    · simp [resV, new2, new1, new0, posIn]
    · simp only [List.mem_cons, List.not_mem_nil, or_false, forall_eq_or_imp, forall_eq]
      exact ⟨newB_fx e1, newB_ch e2⟩
    · simp [resV, exp2, exp1, exp0, posIn, eqA2, eqL1]
    · exact ⟨⟨by omega, rfl, e1⟩, ⟨by omega, rfl, e2⟩, trivial⟩
def GV2 : Nat → Option Ctr := fun f => if f = 13 then some checkEC else if f = 23 then some nameC else if f = 24 then some withinC else if f = 25 then some qrcheckC else if f = 26 then some beforeFC else if f = 30 then some beforeCC else none
theorem GV2_ok : ∀ g c, GV2 g = some c → CtrOK Try.prog g c := by
  intro g c h
  simp only [GV2] at h
  split at h
  · rename_i hg; subst hg; cases h; exact checkEr_ok
  split at h
  · rename_i hg; subst hg; cases h; exact rname_ok
  split at h
  · rename_i hg; subst hg; cases h; exact rday_ok
  split at h
  · rename_i hg; subst hg; cases h; exact qrcheck_ok
  split at h
  · rename_i hg; subst hg; cases h; exact beforeF_ok
  split at h
  · rename_i hg; subst hg; cases h; exact beforeC_ok
  cases h

def SPu (put : Bool) (i : Nat) : KV := [(2, .ptr 0 0), (3, .ptr 1 0), (4, .ptr 2 0), (6, .ptr 4 0), (7, .bool put), (8, .int .i64 (i : Int)), (55, .undef), (56, .undef), (57, .undef), (58, .undef), (72, .undef), (73, .undef), (74, .undef), (75, .undef), (76, .undef)]
def HPu (f : List Fx) (c : List Ch) (x : Fx) (l : List Fx) : Heap := [.box [fxS f, chS c], .box [.str x.name, .int .i64 x.date, .str x.value], .box [.nils, .nils], .arr c.length 4 (chG c), .box [.osl 5 3 0 l.length, .osl 3 4 0 c.length], .arr l.length 3 (fxG l)]
def HPu0 (f : List Fx) (c : List Ch) (x : Fx) : Heap := [.box [fxS f, chS c], .box [.str x.name, .int .i64 x.date, .str x.value], .box [.nils, .nils], .arr (0 + c.length) 4 (appG 0 (listG 4 []) (chG c)), .box [.nils, .osl 3 4 0 (0 + c.length)]]
def HPu1 (f : List Fx) (c : List Ch) (x : Fx) : Heap := [.box [fxS f, chS c], .box [.str x.name, .int .i64 x.date, .str x.value], .box [.nils, .nils], .arr (0 + c.length) 4 (appG 0 (listG 4 []) (chG c)), .box [.osl 5 3 0 0, .osl 3 4 0 (0 + c.length)]]
def rputC : Ctr := ctrP true (fun p : (List Fx × List Ch) × Fx => [envA p.1.1 p.1.2, p.2.av]) (fun p => envP p.1 ∧ smallF p.2) (fun p r => r = putF p.1.1 p.1.2 p.2) (fun _ (r : (List Fx × List Ch) × Int) => (.tup [envA r.1.1 r.1.2, .int .i64 r.2], []))
theorem rput_loop {O : Nat → Prop} {w0 : World} {Q : AV × Heap → Prop} {Hs : Nat → KV → Heap → Prop} (f : List Fx) (c : List Ch) (x : Fx) (hf : f.length ≤ 1000) (hc : c.length ≤ 1000)
    (hq : Q (.tup [envA (if 1000 < (refL cmpF x false f).length then (([], []), 22) else ((refL cmpF x false f, c), 0) : (List Fx × List Ch) × Int).1.1 (if 1000 < (refL cmpF x false f).length then (([], []), 22) else ((refL cmpF x false f, c), 0) : (List Fx × List Ch) × Int).1.2, .int .i64 (if 1000 < (refL cmpF x false f).length then (([], []), 22) else ((refL cmpF x false f, c), 0) : (List Fx × List Ch) × Int).2], [])) :
    SafeK Try.prog Try.f7 O 0 w0 [] Hs (RetR rputC 0 Q) (.code (.loop (lps K7 0).1) :: (lps K7 0).2) (mk Try.f7.ntmps (SPu false 0) (HPu0 f c x)) := by
  refine SafeK.up [(3, fun _ _ => .undef)] (SPu false 0) (HPu1 f c x) (by simp [SPu, upKV, upA2, upA1, upA0]) (by simp [HPu0, HPu1, upH, upB, upL1, upA1, upA0, fxS, chS]) (by kernel_rfl) (by kernel_rfl) ?_
  refine SafeK.loop (ι := {p : Nat × Bool × List Fx // p.1 ≤ f.length ∧ p.2.2 ++ refL cmpF x p.2.1 (f.drop p.1) = refL cmpF x false f ∧ p.2.2.length ≤ 2 * p.1}) (fun p => SPu p.1.2.1 p.1.1) (fun p => HPu f c x p.1.2.2) (fun p => f.length - p.1.1) ⟨(0, false, []), Nat.zero_le _, by simp, by simp⟩ 0 ?_ ?_ (by kernel_rfl)
  · exact ⟨by simp [SPu], ⟨by simp [fxS, chS, eqG_refl], by simp [fxS, chS, eqG_refl], by simp, ⟨by omega, rfl, eqG_app0 _ _ _ _⟩, by simp, ⟨rfl, rfl, fun j o hj _ => by omega⟩, trivial⟩, by kernel_rfl, Nat.zero_le _⟩
  · rintro ⟨⟨i, put, l⟩, hil, hlr, hll⟩
    simp only at hil hlr hll
    refine SafeK.run (k := inside K7 0) hmix GV2_ok [2, 3, 4, 6, 7, 8, 55, 56, 57, 58, 72, 73, 74, 75, 76] 400 (T := Tree.ite (decide ((↑i : Int) < (↑(List.length f) : Int))) (Tree.side ((0 : Int) ≤ (↑i : Int) ∧ (↑i : Int) < (↑(List.length f) : Int)) (Tree.ex (fun (x_1 : Fx × Fx) => (!put) = true → eqL [AV.agg [AV.str (Fx.name (List.getD f (Int.toNat (↑i : Int)) Fx.nil)), AV.int IntKind.i64 (Fx.date (List.getD f (Int.toNat (↑i : Int)) Fx.nil)), AV.str (Fx.value (List.getD f (Int.toNat (↑i : Int)) Fx.nil))], AV.agg [AV.str (Fx.name x), AV.int IntKind.i64 (Fx.date x), AV.str (Fx.value x)]] [AV.agg [AV.str (Fx.name (Prod.fst x_1)), AV.int IntKind.i64 (Fx.date (Prod.fst x_1)), AV.str (Fx.value (Prod.fst x_1))], AV.agg [AV.str (Fx.name (Prod.snd x_1)), AV.int IntKind.i64 (Fx.date (Prod.snd x_1)), AV.str (Fx.value (Prod.snd x_1))]] ∧ True) fun (n : Fx × Fx) => Tree.all (fun (x : Bool) => (!put) = true → x = decide (cmpF (Prod.fst n) (Prod.snd n) < (0 : Int))) fun (n : Bool) => Tree.ite (bif !put then !n else false) (Tree.side ((0 : Nat) = (0 : Nat) ∧ List.length l ≤ List.length l ∧ (List.length l + (1 : Nat)) * (40 : Nat) ≤ (140737488355328 : Nat)) (Tree.ite (bif !decide (Fx.name (List.getD f (Int.toNat (↑i : Int)) Fx.nil) = Fx.name x) then true else !decide (Fx.date (List.getD f (Int.toNat (↑i : Int)) Fx.nil) = Fx.date x)) (Tree.side ((0 : Nat) = (0 : Nat) ∧ List.length l + (1 : Nat) ≤ List.length l + (1 : Nat) ∧ (List.length l + (1 : Nat) + (1 : Nat)) * (40 : Nat) ≤ (140737488355328 : Nat)) (Tree.side (inR IntKind.i64 ((↑i : Int) + (1 : Int))) (Tree.leaf (Leaf2.back (0 : Nat) [((2 : Nat), AV.ptr (0 : Nat) (0 : Nat)), ((3 : Nat), AV.ptr (1 : Nat) (0 : Nat)), ((4 : Nat), AV.ptr (2 : Nat) (0 : Nat)), ((6 : Nat), AV.ptr (4 : Nat) (0 : Nat)), ((7 : Nat), AV.bool true), ((8 : Nat), AV.int IntKind.i64 ((↑i : Int) + (1 : Int))), ((55 : Nat), AV.undef), ((56 : Nat), AV.undef), ((57 : Nat), AV.undef), ((58 : Nat), AV.undef), ((72 : Nat), AV.undef), ((73 : Nat), AV.undef), ((74 : Nat), AV.undef), ((75 : Nat), AV.undef), ((76 : Nat), AV.undef)] [Blk.box [AV.sl (List.length f) (3 : Nat) (fxG f), AV.sl (List.length c) (4 : Nat) (chG c)], Blk.box [AV.str (Fx.name x), AV.int IntKind.i64 (Fx.date x), AV.str (Fx.value x)], Blk.box [AV.nils, AV.nils], Blk.arr (List.length c) (4 : Nat) (chG c), Blk.box [AV.osl (5 : Nat) (3 : Nat) (0 : Nat) (List.length l + (1 : Nat) + (1 : Nat)), AV.osl (3 : Nat) (4 : Nat) (0 : Nat) (List.length c)], Blk.arr (List.length l + (1 : Nat) + (1 : Nat)) (3 : Nat) (appG (List.length l + (1 : Nat)) (appG (List.length l) (fxG l) (viewG (listG (3 : Nat) [AV.str (Fx.name x), AV.int IntKind.i64 (Fx.date x), AV.str (Fx.value x)]) (0 : Nat))) (viewG (listG (3 : Nat) [AV.str (Fx.name (List.getD f (Int.toNat (↑i : Int)) Fx.nil)), AV.int IntKind.i64 (Fx.date (List.getD f (Int.toNat (↑i : Int)) Fx.nil)), AV.str (Fx.value (List.getD f (Int.toNat (↑i : Int)) Fx.nil))]) (0 : Nat))), Blk.box [AV.str (Fx.name (List.getD f (Int.toNat (↑i : Int)) Fx.nil)), AV.int IntKind.i64 (Fx.date (List.getD f (Int.toNat (↑i : Int)) Fx.nil)), AV.str (Fx.value (List.getD f (Int.toNat (↑i : Int)) Fx.nil))], Blk.arr (1 : Nat) (3 : Nat) (listG (3 : Nat) [AV.str (Fx.name x), AV.int IntKind.i64 (Fx.date x), AV.str (Fx.value x)]), Blk.arr (1 : Nat) (3 : Nat) (listG (3 : Nat) [AV.str (Fx.name (List.getD f (Int.toNat (↑i : Int)) Fx.nil)), AV.int IntKind.i64 (Fx.date (List.getD f (Int.toNat (↑i : Int)) Fx.nil)), AV.str (Fx.value (List.getD f (Int.toNat (↑i : Int)) Fx.nil))])])))) (Tree.side (inR IntKind.i64 ((↑i : Int) + (1 : Int))) (Tree.leaf (Leaf2.back (0 : Nat) [((2 : Nat), AV.ptr (0 : Nat) (0 : Nat)), ((3 : Nat), AV.ptr (1 : Nat) (0 : Nat)), ((4 : Nat), AV.ptr (2 : Nat) (0 : Nat)), ((6 : Nat), AV.ptr (4 : Nat) (0 : Nat)), ((7 : Nat), AV.bool true), ((8 : Nat), AV.int IntKind.i64 ((↑i : Int) + (1 : Int))), ((55 : Nat), AV.undef), ((56 : Nat), AV.undef), ((57 : Nat), AV.undef), ((58 : Nat), AV.undef), ((72 : Nat), AV.undef), ((73 : Nat), AV.undef), ((74 : Nat), AV.undef), ((75 : Nat), AV.undef), ((76 : Nat), AV.undef)] [Blk.box [AV.sl (List.length f) (3 : Nat) (fxG f), AV.sl (List.length c) (4 : Nat) (chG c)], Blk.box [AV.str (Fx.name x), AV.int IntKind.i64 (Fx.date x), AV.str (Fx.value x)], Blk.box [AV.nils, AV.nils], Blk.arr (List.length c) (4 : Nat) (chG c), Blk.box [AV.osl (5 : Nat) (3 : Nat) (0 : Nat) (List.length l + (1 : Nat)), AV.osl (3 : Nat) (4 : Nat) (0 : Nat) (List.length c)], Blk.arr (List.length l + (1 : Nat)) (3 : Nat) (appG (List.length l) (fxG l) (viewG (listG (3 : Nat) [AV.str (Fx.name x), AV.int IntKind.i64 (Fx.date x), AV.str (Fx.value x)]) (0 : Nat))), Blk.box [AV.str (Fx.name (List.getD f (Int.toNat (↑i : Int)) Fx.nil)), AV.int IntKind.i64 (Fx.date (List.getD f (Int.toNat (↑i : Int)) Fx.nil)), AV.str (Fx.value (List.getD f (Int.toNat (↑i : Int)) Fx.nil))], Blk.arr (1 : Nat) (3 : Nat) (listG (3 : Nat) [AV.str (Fx.name x), AV.int IntKind.i64 (Fx.date x), AV.str (Fx.value x)])]))))) (Tree.ite (bif !decide (Fx.name (List.getD f (Int.toNat (↑i : Int)) Fx.nil) = Fx.name x) then true else !decide (Fx.date (List.getD f (Int.toNat (↑i : Int)) Fx.nil) = Fx.date x)) (Tree.side ((0 : Nat) = (0 : Nat) ∧ List.length l ≤ List.length l ∧ (List.length l + (1 : Nat)) * (40 : Nat) ≤ (140737488355328 : Nat)) (Tree.side (inR IntKind.i64 ((↑i : Int) + (1 : Int))) (Tree.leaf (Leaf2.back (0 : Nat) [((2 : Nat), AV.ptr (0 : Nat) (0 : Nat)), ((3 : Nat), AV.ptr (1 : Nat) (0 : Nat)), ((4 : Nat), AV.ptr (2 : Nat) (0 : Nat)), ((6 : Nat), AV.ptr (4 : Nat) (0 : Nat)), ((7 : Nat), AV.bool put), ((8 : Nat), AV.int IntKind.i64 ((↑i : Int) + (1 : Int))), ((55 : Nat), AV.undef), ((56 : Nat), AV.undef), ((57 : Nat), AV.undef), ((58 : Nat), AV.undef), ((72 : Nat), AV.undef), ((73 : Nat), AV.undef), ((74 : Nat), AV.undef), ((75 : Nat), AV.undef), ((76 : Nat), AV.undef)] [Blk.box [AV.sl (List.length f) (3 : Nat) (fxG f), AV.sl (List.length c) (4 : Nat) (chG c)], Blk.box [AV.str (Fx.name x), AV.int IntKind.i64 (Fx.date x), AV.str (Fx.value x)], Blk.box [AV.nils, AV.nils], Blk.arr (List.length c) (4 : Nat) (chG c), Blk.box [AV.osl (5 : Nat) (3 : Nat) (0 : Nat) (List.length l + (1 : Nat)), AV.osl (3 : Nat) (4 : Nat) (0 : Nat) (List.length c)], Blk.arr (List.length l + (1 : Nat)) (3 : Nat) (appG (List.length l) (fxG l) (viewG (listG (3 : Nat) [AV.str (Fx.name (List.getD f (Int.toNat (↑i : Int)) Fx.nil)), AV.int IntKind.i64 (Fx.date (List.getD f (Int.toNat (↑i : Int)) Fx.nil)), AV.str (Fx.value (List.getD f (Int.toNat (↑i : Int)) Fx.nil))]) (0 : Nat))), Blk.box [AV.str (Fx.name (List.getD f (Int.toNat (↑i : Int)) Fx.nil)), AV.int IntKind.i64 (Fx.date (List.getD f (Int.toNat (↑i : Int)) Fx.nil)), AV.str (Fx.value (List.getD f (Int.toNat (↑i : Int)) Fx.nil))], Blk.arr (1 : Nat) (3 : Nat) (listG (3 : Nat) [AV.str (Fx.name (List.getD f (Int.toNat (↑i : Int)) Fx.nil)), AV.int IntKind.i64 (Fx.date (List.getD f (Int.toNat (↑i : Int)) Fx.nil)), AV.str (Fx.value (List.getD f (Int.toNat (↑i : Int)) Fx.nil))])])))) (Tree.side (inR IntKind.i64 ((↑i : Int) + (1 : Int))) (Tree.leaf (Leaf2.back (0 : Nat) [((2 : Nat), AV.ptr (0 : Nat) (0 : Nat)), ((3 : Nat), AV.ptr (1 : Nat) (0 : Nat)), ((4 : Nat), AV.ptr (2 : Nat) (0 : Nat)), ((6 : Nat), AV.ptr (4 : Nat) (0 : Nat)), ((7 : Nat), AV.bool put), ((8 : Nat), AV.int IntKind.i64 ((↑i : Int) + (1 : Int))), ((55 : Nat), AV.undef), ((56 : Nat), AV.undef), ((57 : Nat), AV.undef), ((58 : Nat), AV.undef), ((72 : Nat), AV.undef), ((73 : Nat), AV.undef), ((74 : Nat), AV.undef), ((75 : Nat), AV.undef), ((76 : Nat), AV.undef)] [Blk.box [AV.sl (List.length f) (3 : Nat) (fxG f), AV.sl (List.length c) (4 : Nat) (chG c)], Blk.box [AV.str (Fx.name x), AV.int IntKind.i64 (Fx.date x), AV.str (Fx.value x)], Blk.box [AV.nils, AV.nils], Blk.arr (List.length c) (4 : Nat) (chG c), Blk.box [AV.osl (5 : Nat) (3 : Nat) (0 : Nat) (List.length l), AV.osl (3 : Nat) (4 : Nat) (0 : Nat) (List.length c)], Blk.arr (List.length l) (3 : Nat) (fxG l), Blk.box [AV.str (Fx.name (List.getD f (Int.toNat (↑i : Int)) Fx.nil)), AV.int IntKind.i64 (Fx.date (List.getD f (Int.toNat (↑i : Int)) Fx.nil)), AV.str (Fx.value (List.getD f (Int.toNat (↑i : Int)) Fx.nil))]])))))) (Tree.ite (!put) (Tree.side ((0 : Nat) = (0 : Nat) ∧ List.length l ≤ List.length l ∧ (List.length l + (1 : Nat)) * (40 : Nat) ≤ (140737488355328 : Nat)) (Tree.ite (decide ((1000 : Int) < (↑(List.length l + (1 : Nat)) : Int))) (Tree.leaf (Leaf2.ret [AV.agg [AV.nils, AV.nils], AV.int IntKind.i64 (22 : Int)] [Blk.box [AV.sl (List.length f) (3 : Nat) (fxG f), AV.sl (List.length c) (4 : Nat) (chG c)], Blk.box [AV.str (Fx.name x), AV.int IntKind.i64 (Fx.date x), AV.str (Fx.value x)], Blk.box [AV.nils, AV.nils], Blk.arr (List.length c) (4 : Nat) (chG c), Blk.box [AV.osl (5 : Nat) (3 : Nat) (0 : Nat) (List.length l + (1 : Nat)), AV.osl (3 : Nat) (4 : Nat) (0 : Nat) (List.length c)], Blk.arr (List.length l + (1 : Nat)) (3 : Nat) (appG (List.length l) (fxG l) (viewG (listG (3 : Nat) [AV.str (Fx.name x), AV.int IntKind.i64 (Fx.date x), AV.str (Fx.value x)]) (0 : Nat))), Blk.arr (1 : Nat) (3 : Nat) (listG (3 : Nat) [AV.str (Fx.name x), AV.int IntKind.i64 (Fx.date x), AV.str (Fx.value x)])])) (Tree.leaf (Leaf2.ret [AV.agg [AV.osl (5 : Nat) (3 : Nat) (0 : Nat) (List.length l + (1 : Nat)), AV.osl (3 : Nat) (4 : Nat) (0 : Nat) (List.length c)], AV.int IntKind.i64 (0 : Int)] [Blk.box [AV.sl (List.length f) (3 : Nat) (fxG f), AV.sl (List.length c) (4 : Nat) (chG c)], Blk.box [AV.str (Fx.name x), AV.int IntKind.i64 (Fx.date x), AV.str (Fx.value x)], Blk.box [AV.osl (5 : Nat) (3 : Nat) (0 : Nat) (List.length l + (1 : Nat)), AV.osl (3 : Nat) (4 : Nat) (0 : Nat) (List.length c)], Blk.arr (List.length c) (4 : Nat) (chG c), Blk.box [AV.osl (5 : Nat) (3 : Nat) (0 : Nat) (List.length l + (1 : Nat)), AV.osl (3 : Nat) (4 : Nat) (0 : Nat) (List.length c)], Blk.arr (List.length l + (1 : Nat)) (3 : Nat) (appG (List.length l) (fxG l) (viewG (listG (3 : Nat) [AV.str (Fx.name x), AV.int IntKind.i64 (Fx.date x), AV.str (Fx.value x)]) (0 : Nat))), Blk.arr (1 : Nat) (3 : Nat) (listG (3 : Nat) [AV.str (Fx.name x), AV.int IntKind.i64 (Fx.date x), AV.str (Fx.value x)])])))) (Tree.ite (decide ((1000 : Int) < (↑(List.length l) : Int))) (Tree.leaf (Leaf2.ret [AV.agg [AV.nils, AV.nils], AV.int IntKind.i64 (22 : Int)] [Blk.box [AV.sl (List.length f) (3 : Nat) (fxG f), AV.sl (List.length c) (4 : Nat) (chG c)], Blk.box [AV.str (Fx.name x), AV.int IntKind.i64 (Fx.date x), AV.str (Fx.value x)], Blk.box [AV.nils, AV.nils], Blk.arr (List.length c) (4 : Nat) (chG c), Blk.box [AV.osl (5 : Nat) (3 : Nat) (0 : Nat) (List.length l), AV.osl (3 : Nat) (4 : Nat) (0 : Nat) (List.length c)], Blk.arr (List.length l) (3 : Nat) (fxG l)])) (Tree.leaf (Leaf2.ret [AV.agg [AV.osl (5 : Nat) (3 : Nat) (0 : Nat) (List.length l), AV.osl (3 : Nat) (4 : Nat) (0 : Nat) (List.length c)], AV.int IntKind.i64 (0 : Int)] [Blk.box [AV.sl (List.length f) (3 : Nat) (fxG f), AV.sl (List.length c) (4 : Nat) (chG c)], Blk.box [AV.str (Fx.name x), AV.int IntKind.i64 (Fx.date x), AV.str (Fx.value x)], Blk.box [AV.osl (5 : Nat) (3 : Nat) (0 : Nat) (List.length l), AV.osl (3 : Nat) (4 : Nat) (0 : Nat) (List.length c)], Blk.arr (List.length c) (4 : Nat) (chG c), Blk.box [AV.osl (5 : Nat) (3 : Nat) (0 : Nat) (List.length l), AV.osl (3 : Nat) (4 : Nat) (0 : Nat) (List.length c)], Blk.arr (List.length l) (3 : Nat) (fxG l)]))))) (by kernel_rfl) ?_
    simp only [Tree.holds, Leafs2, inR, lo, hi, Int.toNat_natCast, cmpF_test]
    refine ⟨fun hlt => ?_, fun hge => ?_⟩
    · have hlt : i < f.length := by have := of_decide_eq_true hlt; omega
      rw [ref_drop (z := Fx.nil) hlt] at hlr
      obtain ⟨o, ho⟩ : ∃ o, f.getD i Fx.nil = o := ⟨_, rfl⟩
      simp only [ho] at hlr ⊢
      have hbk : ∀ (l' : List Fx) (put' : Bool) (kv : KV) (h : Heap), l' ++ refL cmpF x put' (f.drop (i + 1)) = refL cmpF x false f → l'.length ≤ 2 * (i + 1) → LeK 0 Try.f7.ntmps kv h (SPu put' (i + 1)) (HPu f c x l') →
          ∃ x' : {p : Nat × Bool × List Fx // p.1 ≤ f.length ∧ p.2.2 ++ refL cmpF x p.2.1 (f.drop p.1) = refL cmpF x false f ∧ p.2.2.length ≤ 2 * p.1}, f.length - x'.1.1 < f.length - i ∧ LeK 0 Try.f7.ntmps kv h (SPu x'.1.2.1 x'.1.1) (HPu f c x x'.1.2.2) := fun l' put' kv h g1 g2 g3 => ⟨⟨(i + 1, put', l'), hlt, g1, g2⟩, by show f.length - (i + 1) < f.length - i; omega, g3⟩
      refine ⟨by omega, fun _ => ⟨(o, x), fun _ => ⟨by simp, trivial⟩, ⟨_, fun _ => rfl⟩, ?_⟩⟩
      intro b hb
      have hput : (bif !put then !b else false) = true → put = false ∧ ¬ cmpF o x < 0 := fun h => by
        cases put with
        | true => cases h
        | false => rw [hb rfl] at h; exact ⟨rfl, by simpa using h⟩
      have hput2 : (bif !put then !b else false) = false → (put || !decide (cmpF o x < 0)) = put ∧ ¬ (put = false ∧ ¬ cmpF o x < 0) := fun h => by
        cases put with
        | true => exact ⟨rfl, by simp⟩
        | false =>
          rw [hb rfl] at h
          have h : cmpF o x < 0 := by simpa using h
          rw [decide_eq_true h]
          exact ⟨rfl, fun h2 => h2.2 h⟩
      refine ⟨fun h => ?_, fun h => ?_⟩
      · obtain ⟨hp, hn⟩ := hput h
        rw [if_pos ⟨hp, hn⟩, decide_eq_false hn, Bool.not_false, Bool.or_true] at hlr
        refine ⟨⟨trivial, Nat.le_refl _, by omega⟩, fun _ => ⟨fun h2 => ?_, fun h2 => ⟨by omega, fun _ => ?_⟩⟩⟩
        · have h2 : ¬ cmpF o x = 0 := by simpa using h2
          rw [if_neg h2] at hlr
          refine ⟨⟨trivial, Nat.le_refl _, by omega⟩, fun _ => ⟨by omega, fun _ => ?_⟩⟩
          rw [if_pos trivial]
          refine hbk (l ++ [x] ++ [o]) true _ _ (by simpa using hlr) (by simp; omega) ⟨by simp [SPu], ⟨by simp [fxS, chS, eqG_refl], by simp, by simp, by simp [eqG_refl], by simp, ⟨by simp, rfl, ?_⟩, trivial⟩, by kernel_rfl, Nat.zero_le _⟩
          have := fx_push (x := o) (l := l ++ [x]) (g := appG l.length (fxG l) (viewG (listG 3 [.str x.name, .int .i64 x.date, .str x.value]) 0)) (by simpa using fx_push (eqG_refl _ _ _))
          simpa using this
        · have h2 : cmpF o x = 0 := by simpa using h2
          rw [if_pos h2] at hlr
          rw [if_pos trivial]
          refine hbk (l ++ [x]) true _ _ (by simpa using hlr) (by simp; omega) ⟨by simp [SPu], ⟨by simp [fxS, chS, eqG_refl], by simp, by simp, by simp [eqG_refl], by simp, ⟨by simp, rfl, ?_⟩, trivial⟩, by kernel_rfl, Nat.zero_le _⟩
          exact fx_push (eqG_refl _ _ _)
      · obtain ⟨hp, hn⟩ := hput2 h
        rw [if_neg hn, hp] at hlr
        refine ⟨fun h2 => ?_, fun h2 => ⟨by omega, fun _ => ?_⟩⟩
        · have h2 : ¬ cmpF o x = 0 := by simpa using h2
          rw [if_neg h2] at hlr
          refine ⟨⟨trivial, Nat.le_refl _, by omega⟩, fun _ => ⟨by omega, fun _ => ?_⟩⟩
          rw [if_pos trivial]
          refine hbk (l ++ [o]) put _ _ (by simpa using hlr) (by simp; omega) ⟨by simp [SPu], ⟨by simp [fxS, chS, eqG_refl], by simp, by simp, by simp [eqG_refl], by simp, ⟨by simp, rfl, ?_⟩, trivial⟩, by kernel_rfl, Nat.zero_le _⟩
          exact fx_push (eqG_refl _ _ _)
        · have h2 : cmpF o x = 0 := by simpa using h2
          rw [if_pos h2] at hlr
          rw [if_pos trivial]
          exact hbk l put _ _ (by simpa using hlr) (by omega) ⟨by simp [SPu], by simp [HPu, fxS, chS, eqG_refl], by kernel_rfl, Nat.zero_le _⟩
    · have hge : i = f.length := by have := of_decide_eq_false hge; omega
      subst hge
      rw [List.drop_length] at hlr
      simp only [refL] at hlr
      refine ⟨fun h => ⟨⟨trivial, Nat.le_refl _, by omega⟩, fun _ => ?_⟩, fun h => ?_⟩
      · have hp : put = false := by simpa using h
        rw [hp, if_neg (by simp)] at hlr
        rw [← hlr] at hq
        simp only [List.length_append, List.length_cons, List.length_nil] at hq
        refine ⟨fun h3 => ?_, fun h3 => ?_⟩
        · have h3 : 1000 < l.length + (0 + 1) := by have := of_decide_eq_true h3; omega
          simp only [if_pos h3] at hq
          exact RetR.out0 hq (fun _ => by simp [resV, new2, new1, new0, scalA]) (by simp [resV, exp2, exp1, exp0, ren0, eqA2, eqL1, envA, fxS, chS])
        · have h3 : ¬ 1000 < l.length + (0 + 1) := by have := of_decide_eq_false h3; omega
          simp only [if_neg h3] at hq
          have e1 := fx_push (x := x) (eqG_refl l.length 3 (fxG l))
          refine RetR.out0 hq (fun _ => ?_) ?_
          · simp only [resV, new2, List.mem_cons, List.not_mem_nil, or_false, forall_eq_or_imp, forall_eq, new1]
            exact ⟨⟨new0_own (h := _) (i := 5) rfl (by omega) fun j o hj ho => by simp only [viewG, Nat.zero_add]; rw [e1 j o hj ho]; exact fx_scal _ _ _ ho, new0_own (i := 3) rfl (by omega) fun j o hj ho => by simp only [viewG, Nat.zero_add]; exact ch_scal _ _ _ ho⟩, rfl⟩
          · simp only [resV, exp2, List.map_cons, List.map_nil, exp1]
            rw [exp0_own (i := 5) rfl (by omega), exp0_own (i := 3) rfl (by omega)]
            simp [eqA2, eqL1, envA, fxS, chS, exp0, ren0, eqG_view0, eqG_refl]
            exact fun j o hj ho => by simp only [viewG, Nat.zero_add]; exact e1 j o hj ho
      · have hp : put = true := by simpa using h
        rw [hp, if_pos rfl, List.append_nil] at hlr
        rw [← hlr] at hq
        refine ⟨fun h3 => ?_, fun h3 => ?_⟩
        · have h3 : 1000 < l.length := by have := of_decide_eq_true h3; omega
          simp only [if_pos h3] at hq
          exact RetR.out0 hq (fun _ => by simp [resV, new2, new1, new0, scalA]) (by simp [resV, exp2, exp1, exp0, ren0, eqA2, eqL1, envA, fxS, chS])
        · have h3 : ¬ 1000 < l.length := by have := of_decide_eq_false h3; omega
          simp only [if_neg h3] at hq
          refine RetR.out0 hq (fun _ => ?_) ?_
          · simp only [resV, new2, List.mem_cons, List.not_mem_nil, or_false, forall_eq_or_imp, forall_eq, new1]
            exact ⟨⟨new0_own (i := 5) rfl (by omega) fun j o hj ho => by simp only [viewG, Nat.zero_add]; exact fx_scal _ _ _ ho, new0_own (i := 3) rfl (by omega) fun j o hj ho => by simp only [viewG, Nat.zero_add]; exact ch_scal _ _ _ ho⟩, rfl⟩
          · simp only [resV, exp2, List.map_cons, List.map_nil, exp1]
            rw [exp0_own (i := 5) rfl (by omega), exp0_own (i := 3) rfl (by omega)]
            simp [eqA2, eqL1, envA, fxS, chS, exp0, ren0, eqG_view0, eqG_refl]
theorem rput_ok : CtrOK Try.prog 7 rputC := by
  refine fn_ctrP (fn := Try.f7) (c := Try.f7.body.getD .skip) rfl rfl rfl fun p hp O w0 Q hq => ?_
  obtain ⟨⟨f, c⟩, ⟨a, d, v⟩⟩ := p
  obtain ⟨he, hs1, hs2⟩ := hp
  replace hq := hq _ rfl
  simp only at hq he hs1 hs2
  refine SafeK.run (k := K7) hmix GV2_ok [2, 3, 4, 6, 7, 8, 55, 56, 57, 58, 72, 73, 74, 75, 76] 400 (T := Tree.ex (fun (x : List Fx × List Ch) => eqL [AV.agg [AV.sl (List.length f) (3 : Nat) (fxG f), AV.sl (List.length c) (4 : Nat) (chG c)]] [AV.agg [AV.sl (List.length (Prod.fst x)) (3 : Nat) (fxG (Prod.fst x)), AV.sl (List.length (Prod.snd x)) (4 : Nat) (chG (Prod.snd x))]] ∧ envP x) fun (n : List Fx × List Ch) => Tree.all (fun (r : Int) => r = errE (Prod.fst n) (Prod.snd n)) fun (n : Int) => Tree.ite (!decide (n = (0 : Int))) (Tree.ex (fun (x : List Fx × List Ch) => eqL [AV.agg [AV.sl (List.length f) (3 : Nat) (fxG f), AV.sl (List.length c) (4 : Nat) (chG c)]] [AV.agg [AV.sl (List.length (Prod.fst x)) (3 : Nat) (fxG (Prod.fst x)), AV.sl (List.length (Prod.snd x)) (4 : Nat) (chG (Prod.snd x))]] ∧ envP x) fun (n : List Fx × List Ch) => Tree.all (fun (r : Int) => r = errE (Prod.fst n) (Prod.snd n)) fun (n : Int) => Tree.leaf (Leaf2.ret [AV.agg [AV.nils, AV.nils], AV.int IntKind.i64 n] [Blk.box [AV.sl (List.length f) (3 : Nat) (fxG f), AV.sl (List.length c) (4 : Nat) (chG c)], Blk.box [AV.str a, AV.int IntKind.i64 d, AV.str v], Blk.box [AV.nils, AV.nils]])) (Tree.ex (fun (x : List UInt8) => eqL [AV.str a] [AV.str x] ∧ List.length x < (4611686018427387904 : Nat)) fun (n : List UInt8) => Tree.all (fun (r : Bool) => r = nameB n) fun (n : Bool) => Tree.ex (fun (x : Int) => (!n) = false → eqL [AV.int IntKind.i64 d] [AV.int IntKind.i64 x] ∧ True) fun (n_1 : Int) => Tree.all (fun (x : Bool) => (!n) = false → x = dayB n_1) fun (n_2 : Bool) => Tree.ite (bif !n then true else !n_2) (Tree.leaf (Leaf2.ret [AV.agg [AV.nils, AV.nils], AV.int IntKind.i64 (2 : Int)] [Blk.box [AV.sl (List.length f) (3 : Nat) (fxG f), AV.sl (List.length c) (4 : Nat) (chG c)], Blk.box [AV.str a, AV.int IntKind.i64 d, AV.str v], Blk.box [AV.nils, AV.nils]])) (Tree.ex (fun (x : List UInt8) => eqL [AV.str v] [AV.str x] ∧ List.length x < (1099511627776 : Nat)) fun (n : List UInt8) => Tree.all (fun (r : Int) => r = errR n) fun (n : Int) => Tree.ite (!decide (n = (0 : Int))) (Tree.ex (fun (x : List UInt8) => eqL [AV.str v] [AV.str x] ∧ List.length x < (1099511627776 : Nat)) fun (n : List UInt8) => Tree.all (fun (r : Int) => r = errR n) fun (n : Int) => Tree.leaf (Leaf2.ret [AV.agg [AV.nils, AV.nils], AV.int IntKind.i64 n] [Blk.box [AV.sl (List.length f) (3 : Nat) (fxG f), AV.sl (List.length c) (4 : Nat) (chG c)], Blk.box [AV.str a, AV.int IntKind.i64 d, AV.str v], Blk.box [AV.nils, AV.nils]])) (Tree.side ((0 : Nat) = (0 : Nat) ∧ (0 : Nat) ≤ (0 : Nat) ∧ ((0 : Nat) + List.length c) * (48 : Nat) ≤ (140737488355328 : Nat)) (Tree.leaf (Leaf2.loop (Prod.fst (lps K7 (0 : Nat))) (Prod.snd (lps K7 (0 : Nat))) [((2 : Nat), AV.ptr (0 : Nat) (0 : Nat)), ((3 : Nat), AV.ptr (1 : Nat) (0 : Nat)), ((4 : Nat), AV.ptr (2 : Nat) (0 : Nat)), ((6 : Nat), AV.ptr (4 : Nat) (0 : Nat)), ((7 : Nat), AV.bool false), ((8 : Nat), AV.int IntKind.i64 (0 : Int)), ((55 : Nat), AV.undef), ((56 : Nat), AV.undef), ((57 : Nat), AV.undef), ((58 : Nat), AV.undef), ((72 : Nat), AV.undef), ((73 : Nat), AV.undef), ((74 : Nat), AV.undef), ((75 : Nat), AV.undef), ((76 : Nat), AV.undef)] [Blk.box [AV.sl (List.length f) (3 : Nat) (fxG f), AV.sl (List.length c) (4 : Nat) (chG c)], Blk.box [AV.str a, AV.int IntKind.i64 d, AV.str v], Blk.box [AV.nils, AV.nils], Blk.arr ((0 : Nat) + List.length c) (4 : Nat) (appG (0 : Nat) (listG (4 : Nat) []) (chG c)), Blk.box [AV.nils, AV.osl (3 : Nat) (4 : Nat) (0 : Nat) ((0 : Nat) + List.length c)]])))))) (by kernel_rfl) ?_
  simp only [Tree.holds, Leafs2]
  have bad : ∀ (e : Int) (h : Heap), putF f c ⟨a, d, v⟩ = (([], []), e) → RetR rputC 0 Q [.agg [.nils, .nils], .int .i64 e] h := fun e h hr => by
    rw [hr] at hq
    exact RetR.out0 hq (fun _ => by simp [resV, new2, new1, new0, scalA]) (by simp [resV, exp2, exp1, exp0, ren0, eqA2, eqL1, envA, fxS, chS])
  refine ⟨(f, c), ⟨by simp [eqG_refl], he⟩, ⟨_, rfl⟩, ?_⟩
  rintro _ rfl
  refine ⟨fun h => ?_, fun h => ?_⟩
  · have h : errE f c ≠ 0 := by simpa using h
    refine ⟨(f, c), ⟨by simp [eqG_refl], he⟩, ⟨_, rfl⟩, ?_⟩
    rintro _ rfl
    exact bad _ _ (by simp [putF, h])
  · have h : errE f c = 0 := by simpa using h
    refine ⟨a, ⟨by simp, by omega⟩, ⟨_, rfl⟩, ?_⟩
    rintro _ rfl
    refine ⟨d, fun _ => ⟨by simp, trivial⟩, ⟨_, fun _ => rfl⟩, ?_⟩
    intro b1 g1
    have key : (bif !nameB a then true else !b1) = !(nameB a && dayB d) := by
      cases hn : nameB a with
      | false => rfl
      | true => rw [g1 (by rw [hn]; rfl)]; rfl
    rw [key]
    refine ⟨fun h2 => ?_, fun h2 => ?_⟩
    · exact bad _ _ (by simp only [putF]; rw [if_neg (by simp [h]), if_pos (by simpa only [Bool.not_eq_true'] using h2)])
    · have h2 : ¬ (nameB a && dayB d) = false := by simpa using h2
      refine ⟨v, ⟨by simp, by omega⟩, ⟨_, rfl⟩, ?_⟩
      rintro _ rfl
      refine ⟨fun h3 => ?_, fun h3 => ?_⟩
      · have h3 : errR v ≠ 0 := by simpa using h3
        refine ⟨v, ⟨by simp, by omega⟩, ⟨_, rfl⟩, ?_⟩
        rintro _ rfl
        exact bad _ _ (by simp only [putF]; rw [if_neg (by simp [h]), if_neg h2, if_pos h3])
      · have h3 : ¬ errR v ≠ 0 := by simpa using h3
        obtain ⟨hb, _, _, ho, _⟩ := errE_0.1 h
        have hpl : refL cmpF ⟨a, d, v⟩ false f = placeL cmpF ⟨a, d, v⟩ f := refL_place ordF_k (pair_of ordF_k ho)
        have hr : putF f c ⟨a, d, v⟩ = if 1000 < (refL cmpF ⟨a, d, v⟩ false f).length then (([], []), 22) else ((refL cmpF ⟨a, d, v⟩ false f, c), 0) := by
          simp only [putF]; rw [if_neg (by simp [h]), if_neg h2, if_neg h3, hpl]
        rw [hr] at hq
        refine ⟨⟨trivial, Nat.le_refl _, by omega⟩, fun _ => ?_⟩
        exact rput_loop f c ⟨a, d, v⟩ (by omega) (by omega) hq
def SCo (put : Bool) (i : Nat) : KV := [(2, .ptr 0 0), (3, .ptr 1 0), (4, .ptr 2 0), (6, .ptr 4 0), (7, .bool put), (8, .int .i64 (i : Int)), (53, .undef), (54, .undef), (55, .undef), (56, .undef), (70, .undef), (71, .undef), (72, .undef), (73, .undef), (74, .undef), (77, .undef), (78, .undef), (79, .undef), (80, .undef), (81, .undef)]
def HCo (f : List Fx) (c : List Ch) (x : Ch) (l : List Ch) : Heap := [.box [fxS f, chS c], .box [.str x.party, .str x.name, .int .i64 x.date, .bool x.first], .box [.nils, .nils], .arr f.length 3 (fxG f), .box [.osl 3 3 0 f.length, .osl 5 4 0 l.length], .arr l.length 4 (chG l)]
def HCo0 (f : List Fx) (c : List Ch) (x : Ch) : Heap := [.box [fxS f, chS c], .box [.str x.party, .str x.name, .int .i64 x.date, .bool x.first], .box [.nils, .nils], .arr (0 + f.length) 3 (appG 0 (listG 3 []) (fxG f)), .box [.osl 3 3 0 (0 + f.length), .nils]]
def HCo1 (f : List Fx) (c : List Ch) (x : Ch) : Heap := [.box [fxS f, chS c], .box [.str x.party, .str x.name, .int .i64 x.date, .bool x.first], .box [.nils, .nils], .arr (0 + f.length) 3 (appG 0 (listG 3 []) (fxG f)), .box [.osl 3 3 0 (0 + f.length), .osl 5 4 0 0]]
def rchoC : Ctr := ctrP true (fun p : (List Fx × List Ch) × Ch => [envA p.1.1 p.1.2, p.2.av]) (fun p => envP p.1 ∧ smallC p.2) (fun p r => r = putC p.1.1 p.1.2 p.2) (fun _ (r : (List Fx × List Ch) × Int) => (.tup [envA r.1.1 r.1.2, .int .i64 r.2], []))
theorem rcho_loop {O : Nat → Prop} {w0 : World} {Q : AV × Heap → Prop} {Hs : Nat → KV → Heap → Prop} (f : List Fx) (c : List Ch) (x : Ch) (hf : f.length ≤ 1000) (hc : c.length ≤ 1000)
    (hq : Q (.tup [envA (if 1000 < (refL cmpC x false c).length then (([], []), 22) else ((f, refL cmpC x false c), 0) : (List Fx × List Ch) × Int).1.1 (if 1000 < (refL cmpC x false c).length then (([], []), 22) else ((f, refL cmpC x false c), 0) : (List Fx × List Ch) × Int).1.2, .int .i64 (if 1000 < (refL cmpC x false c).length then (([], []), 22) else ((f, refL cmpC x false c), 0) : (List Fx × List Ch) × Int).2], [])) :
    SafeK Try.prog Try.f9 O 0 w0 [] Hs (RetR rchoC 0 Q) (.code (.loop (lps K9 0).1) :: (lps K9 0).2) (mk Try.f9.ntmps (SCo false 0) (HCo0 f c x)) := by
  refine SafeK.up [(4, fun _ _ => .undef)] (SCo false 0) (HCo1 f c x) (by simp [SCo, upKV, upA2, upA1, upA0]) (by simp [HCo0, HCo1, upH, upB, upL1, upA1, upA0, fxS, chS]) (by kernel_rfl) (by kernel_rfl) ?_
  refine SafeK.loop (ι := {p : Nat × Bool × List Ch // p.1 ≤ c.length ∧ p.2.2 ++ refL cmpC x p.2.1 (c.drop p.1) = refL cmpC x false c ∧ p.2.2.length ≤ 2 * p.1}) (fun p => SCo p.1.2.1 p.1.1) (fun p => HCo f c x p.1.2.2) (fun p => c.length - p.1.1) ⟨(0, false, []), Nat.zero_le _, by simp, by simp⟩ 0 ?_ ?_ (by kernel_rfl)
  · exact ⟨by simp [SCo], ⟨by simp [fxS, chS, eqG_refl], by simp [fxS, chS, eqG_refl], by simp, ⟨by omega, rfl, eqG_app0 _ _ _ _⟩, by simp, ⟨rfl, rfl, fun j o hj _ => by omega⟩, trivial⟩, by kernel_rfl, Nat.zero_le _⟩
  · rintro ⟨⟨i, put, l⟩, hil, hlr, hll⟩
    simp only at hil hlr hll
    refine SafeK.run (k := inside K9 0) hmix GV2_ok [2, 3, 4, 6, 7, 8, 53, 54, 55, 56, 70, 71, 72, 73, 74, 77, 78, 79, 80, 81] 400 (T := Tree.ite (decide ((↑i : Int) < (↑(List.length c) : Int))) (Tree.side ((0 : Int) ≤ (↑i : Int) ∧ (↑i : Int) < (↑(List.length c) : Int)) (Tree.ex (fun (x_1 : Ch × Ch) => (!put) = true → eqL [AV.agg [AV.str (Ch.party (List.getD c (Int.toNat (↑i : Int)) Ch.nil)), AV.str (Ch.name (List.getD c (Int.toNat (↑i : Int)) Ch.nil)), AV.int IntKind.i64 (Ch.date (List.getD c (Int.toNat (↑i : Int)) Ch.nil)), AV.bool (Ch.first (List.getD c (Int.toNat (↑i : Int)) Ch.nil))], AV.agg [AV.str (Ch.party x), AV.str (Ch.name x), AV.int IntKind.i64 (Ch.date x), AV.bool (Ch.first x)]] [AV.agg [AV.str (Ch.party (Prod.fst x_1)), AV.str (Ch.name (Prod.fst x_1)), AV.int IntKind.i64 (Ch.date (Prod.fst x_1)), AV.bool (Ch.first (Prod.fst x_1))], AV.agg [AV.str (Ch.party (Prod.snd x_1)), AV.str (Ch.name (Prod.snd x_1)), AV.int IntKind.i64 (Ch.date (Prod.snd x_1)), AV.bool (Ch.first (Prod.snd x_1))]] ∧ True) fun (n : Ch × Ch) => Tree.all (fun (x : Bool) => (!put) = true → x = decide (cmpC (Prod.fst n) (Prod.snd n) < (0 : Int))) fun (n : Bool) => Tree.ite (bif !put then !n else false) (Tree.side ((0 : Nat) = (0 : Nat) ∧ List.length l ≤ List.length l ∧ (List.length l + (1 : Nat)) * (48 : Nat) ≤ (140737488355328 : Nat)) (Tree.ite (bif bif !decide (Ch.party (List.getD c (Int.toNat (↑i : Int)) Ch.nil) = Ch.party x) then true else !decide (Ch.name (List.getD c (Int.toNat (↑i : Int)) Ch.nil) = Ch.name x) then true else !decide (Ch.date (List.getD c (Int.toNat (↑i : Int)) Ch.nil) = Ch.date x)) (Tree.side ((0 : Nat) = (0 : Nat) ∧ List.length l + (1 : Nat) ≤ List.length l + (1 : Nat) ∧ (List.length l + (1 : Nat) + (1 : Nat)) * (48 : Nat) ≤ (140737488355328 : Nat)) (Tree.side (inR IntKind.i64 ((↑i : Int) + (1 : Int))) (Tree.leaf (Leaf2.back (0 : Nat) [((2 : Nat), AV.ptr (0 : Nat) (0 : Nat)), ((3 : Nat), AV.ptr (1 : Nat) (0 : Nat)), ((4 : Nat), AV.ptr (2 : Nat) (0 : Nat)), ((6 : Nat), AV.ptr (4 : Nat) (0 : Nat)), ((7 : Nat), AV.bool true), ((8 : Nat), AV.int IntKind.i64 ((↑i : Int) + (1 : Int))), ((53 : Nat), AV.undef), ((54 : Nat), AV.undef), ((55 : Nat), AV.undef), ((56 : Nat), AV.undef), ((70 : Nat), AV.undef), ((71 : Nat), AV.undef), ((72 : Nat), AV.undef), ((73 : Nat), AV.undef), ((74 : Nat), AV.undef), ((77 : Nat), AV.undef), ((78 : Nat), AV.undef), ((79 : Nat), AV.undef), ((80 : Nat), AV.undef), ((81 : Nat), AV.undef)] [Blk.box [AV.sl (List.length f) (3 : Nat) (fxG f), AV.sl (List.length c) (4 : Nat) (chG c)], Blk.box [AV.str (Ch.party x), AV.str (Ch.name x), AV.int IntKind.i64 (Ch.date x), AV.bool (Ch.first x)], Blk.box [AV.nils, AV.nils], Blk.arr (List.length f) (3 : Nat) (fxG f), Blk.box [AV.osl (3 : Nat) (3 : Nat) (0 : Nat) (List.length f), AV.osl (5 : Nat) (4 : Nat) (0 : Nat) (List.length l + (1 : Nat) + (1 : Nat))], Blk.arr (List.length l + (1 : Nat) + (1 : Nat)) (4 : Nat) (appG (List.length l + (1 : Nat)) (appG (List.length l) (chG l) (viewG (listG (4 : Nat) [AV.str (Ch.party x), AV.str (Ch.name x), AV.int IntKind.i64 (Ch.date x), AV.bool (Ch.first x)]) (0 : Nat))) (viewG (listG (4 : Nat) [AV.str (Ch.party (List.getD c (Int.toNat (↑i : Int)) Ch.nil)), AV.str (Ch.name (List.getD c (Int.toNat (↑i : Int)) Ch.nil)), AV.int IntKind.i64 (Ch.date (List.getD c (Int.toNat (↑i : Int)) Ch.nil)), AV.bool (Ch.first (List.getD c (Int.toNat (↑i : Int)) Ch.nil))]) (0 : Nat))), Blk.box [AV.str (Ch.party (List.getD c (Int.toNat (↑i : Int)) Ch.nil)), AV.str (Ch.name (List.getD c (Int.toNat (↑i : Int)) Ch.nil)), AV.int IntKind.i64 (Ch.date (List.getD c (Int.toNat (↑i : Int)) Ch.nil)), AV.bool (Ch.first (List.getD c (Int.toNat (↑i : Int)) Ch.nil))], Blk.arr (1 : Nat) (4 : Nat) (listG (4 : Nat) [AV.str (Ch.party x), AV.str (Ch.name x), AV.int IntKind.i64 (Ch.date x), AV.bool (Ch.first x)]), Blk.arr (1 : Nat) (4 : Nat) (listG (4 : Nat) [AV.str (Ch.party (List.getD c (Int.toNat (↑i : Int)) Ch.nil)), AV.str (Ch.name (List.getD c (Int.toNat (↑i : Int)) Ch.nil)), AV.int IntKind.i64 (Ch.date (List.getD c (Int.toNat (↑i : Int)) Ch.nil)), AV.bool (Ch.first (List.getD c (Int.toNat (↑i : Int)) Ch.nil))])])))) (Tree.side (inR IntKind.i64 ((↑i : Int) + (1 : Int))) (Tree.leaf (Leaf2.back (0 : Nat) [((2 : Nat), AV.ptr (0 : Nat) (0 : Nat)), ((3 : Nat), AV.ptr (1 : Nat) (0 : Nat)), ((4 : Nat), AV.ptr (2 : Nat) (0 : Nat)), ((6 : Nat), AV.ptr (4 : Nat) (0 : Nat)), ((7 : Nat), AV.bool true), ((8 : Nat), AV.int IntKind.i64 ((↑i : Int) + (1 : Int))), ((53 : Nat), AV.undef), ((54 : Nat), AV.undef), ((55 : Nat), AV.undef), ((56 : Nat), AV.undef), ((70 : Nat), AV.undef), ((71 : Nat), AV.undef), ((72 : Nat), AV.undef), ((73 : Nat), AV.undef), ((74 : Nat), AV.undef), ((77 : Nat), AV.undef), ((78 : Nat), AV.undef), ((79 : Nat), AV.undef), ((80 : Nat), AV.undef), ((81 : Nat), AV.undef)] [Blk.box [AV.sl (List.length f) (3 : Nat) (fxG f), AV.sl (List.length c) (4 : Nat) (chG c)], Blk.box [AV.str (Ch.party x), AV.str (Ch.name x), AV.int IntKind.i64 (Ch.date x), AV.bool (Ch.first x)], Blk.box [AV.nils, AV.nils], Blk.arr (List.length f) (3 : Nat) (fxG f), Blk.box [AV.osl (3 : Nat) (3 : Nat) (0 : Nat) (List.length f), AV.osl (5 : Nat) (4 : Nat) (0 : Nat) (List.length l + (1 : Nat))], Blk.arr (List.length l + (1 : Nat)) (4 : Nat) (appG (List.length l) (chG l) (viewG (listG (4 : Nat) [AV.str (Ch.party x), AV.str (Ch.name x), AV.int IntKind.i64 (Ch.date x), AV.bool (Ch.first x)]) (0 : Nat))), Blk.box [AV.str (Ch.party (List.getD c (Int.toNat (↑i : Int)) Ch.nil)), AV.str (Ch.name (List.getD c (Int.toNat (↑i : Int)) Ch.nil)), AV.int IntKind.i64 (Ch.date (List.getD c (Int.toNat (↑i : Int)) Ch.nil)), AV.bool (Ch.first (List.getD c (Int.toNat (↑i : Int)) Ch.nil))], Blk.arr (1 : Nat) (4 : Nat) (listG (4 : Nat) [AV.str (Ch.party x), AV.str (Ch.name x), AV.int IntKind.i64 (Ch.date x), AV.bool (Ch.first x)])]))))) (Tree.ite (bif bif !decide (Ch.party (List.getD c (Int.toNat (↑i : Int)) Ch.nil) = Ch.party x) then true else !decide (Ch.name (List.getD c (Int.toNat (↑i : Int)) Ch.nil) = Ch.name x) then true else !decide (Ch.date (List.getD c (Int.toNat (↑i : Int)) Ch.nil) = Ch.date x)) (Tree.side ((0 : Nat) = (0 : Nat) ∧ List.length l ≤ List.length l ∧ (List.length l + (1 : Nat)) * (48 : Nat) ≤ (140737488355328 : Nat)) (Tree.side (inR IntKind.i64 ((↑i : Int) + (1 : Int))) (Tree.leaf (Leaf2.back (0 : Nat) [((2 : Nat), AV.ptr (0 : Nat) (0 : Nat)), ((3 : Nat), AV.ptr (1 : Nat) (0 : Nat)), ((4 : Nat), AV.ptr (2 : Nat) (0 : Nat)), ((6 : Nat), AV.ptr (4 : Nat) (0 : Nat)), ((7 : Nat), AV.bool put), ((8 : Nat), AV.int IntKind.i64 ((↑i : Int) + (1 : Int))), ((53 : Nat), AV.undef), ((54 : Nat), AV.undef), ((55 : Nat), AV.undef), ((56 : Nat), AV.undef), ((70 : Nat), AV.undef), ((71 : Nat), AV.undef), ((72 : Nat), AV.undef), ((73 : Nat), AV.undef), ((74 : Nat), AV.undef), ((77 : Nat), AV.undef), ((78 : Nat), AV.undef), ((79 : Nat), AV.undef), ((80 : Nat), AV.undef), ((81 : Nat), AV.undef)] [Blk.box [AV.sl (List.length f) (3 : Nat) (fxG f), AV.sl (List.length c) (4 : Nat) (chG c)], Blk.box [AV.str (Ch.party x), AV.str (Ch.name x), AV.int IntKind.i64 (Ch.date x), AV.bool (Ch.first x)], Blk.box [AV.nils, AV.nils], Blk.arr (List.length f) (3 : Nat) (fxG f), Blk.box [AV.osl (3 : Nat) (3 : Nat) (0 : Nat) (List.length f), AV.osl (5 : Nat) (4 : Nat) (0 : Nat) (List.length l + (1 : Nat))], Blk.arr (List.length l + (1 : Nat)) (4 : Nat) (appG (List.length l) (chG l) (viewG (listG (4 : Nat) [AV.str (Ch.party (List.getD c (Int.toNat (↑i : Int)) Ch.nil)), AV.str (Ch.name (List.getD c (Int.toNat (↑i : Int)) Ch.nil)), AV.int IntKind.i64 (Ch.date (List.getD c (Int.toNat (↑i : Int)) Ch.nil)), AV.bool (Ch.first (List.getD c (Int.toNat (↑i : Int)) Ch.nil))]) (0 : Nat))), Blk.box [AV.str (Ch.party (List.getD c (Int.toNat (↑i : Int)) Ch.nil)), AV.str (Ch.name (List.getD c (Int.toNat (↑i : Int)) Ch.nil)), AV.int IntKind.i64 (Ch.date (List.getD c (Int.toNat (↑i : Int)) Ch.nil)), AV.bool (Ch.first (List.getD c (Int.toNat (↑i : Int)) Ch.nil))], Blk.arr (1 : Nat) (4 : Nat) (listG (4 : Nat) [AV.str (Ch.party (List.getD c (Int.toNat (↑i : Int)) Ch.nil)), AV.str (Ch.name (List.getD c (Int.toNat (↑i : Int)) Ch.nil)), AV.int IntKind.i64 (Ch.date (List.getD c (Int.toNat (↑i : Int)) Ch.nil)), AV.bool (Ch.first (List.getD c (Int.toNat (↑i : Int)) Ch.nil))])])))) (Tree.side (inR IntKind.i64 ((↑i : Int) + (1 : Int))) (Tree.leaf (Leaf2.back (0 : Nat) [((2 : Nat), AV.ptr (0 : Nat) (0 : Nat)), ((3 : Nat), AV.ptr (1 : Nat) (0 : Nat)), ((4 : Nat), AV.ptr (2 : Nat) (0 : Nat)), ((6 : Nat), AV.ptr (4 : Nat) (0 : Nat)), ((7 : Nat), AV.bool put), ((8 : Nat), AV.int IntKind.i64 ((↑i : Int) + (1 : Int))), ((53 : Nat), AV.undef), ((54 : Nat), AV.undef), ((55 : Nat), AV.undef), ((56 : Nat), AV.undef), ((70 : Nat), AV.undef), ((71 : Nat), AV.undef), ((72 : Nat), AV.undef), ((73 : Nat), AV.undef), ((74 : Nat), AV.undef), ((77 : Nat), AV.undef), ((78 : Nat), AV.undef), ((79 : Nat), AV.undef), ((80 : Nat), AV.undef), ((81 : Nat), AV.undef)] [Blk.box [AV.sl (List.length f) (3 : Nat) (fxG f), AV.sl (List.length c) (4 : Nat) (chG c)], Blk.box [AV.str (Ch.party x), AV.str (Ch.name x), AV.int IntKind.i64 (Ch.date x), AV.bool (Ch.first x)], Blk.box [AV.nils, AV.nils], Blk.arr (List.length f) (3 : Nat) (fxG f), Blk.box [AV.osl (3 : Nat) (3 : Nat) (0 : Nat) (List.length f), AV.osl (5 : Nat) (4 : Nat) (0 : Nat) (List.length l)], Blk.arr (List.length l) (4 : Nat) (chG l), Blk.box [AV.str (Ch.party (List.getD c (Int.toNat (↑i : Int)) Ch.nil)), AV.str (Ch.name (List.getD c (Int.toNat (↑i : Int)) Ch.nil)), AV.int IntKind.i64 (Ch.date (List.getD c (Int.toNat (↑i : Int)) Ch.nil)), AV.bool (Ch.first (List.getD c (Int.toNat (↑i : Int)) Ch.nil))]])))))) (Tree.ite (!put) (Tree.side ((0 : Nat) = (0 : Nat) ∧ List.length l ≤ List.length l ∧ (List.length l + (1 : Nat)) * (48 : Nat) ≤ (140737488355328 : Nat)) (Tree.ite (decide ((1000 : Int) < (↑(List.length l + (1 : Nat)) : Int))) (Tree.leaf (Leaf2.ret [AV.agg [AV.nils, AV.nils], AV.int IntKind.i64 (22 : Int)] [Blk.box [AV.sl (List.length f) (3 : Nat) (fxG f), AV.sl (List.length c) (4 : Nat) (chG c)], Blk.box [AV.str (Ch.party x), AV.str (Ch.name x), AV.int IntKind.i64 (Ch.date x), AV.bool (Ch.first x)], Blk.box [AV.nils, AV.nils], Blk.arr (List.length f) (3 : Nat) (fxG f), Blk.box [AV.osl (3 : Nat) (3 : Nat) (0 : Nat) (List.length f), AV.osl (5 : Nat) (4 : Nat) (0 : Nat) (List.length l + (1 : Nat))], Blk.arr (List.length l + (1 : Nat)) (4 : Nat) (appG (List.length l) (chG l) (viewG (listG (4 : Nat) [AV.str (Ch.party x), AV.str (Ch.name x), AV.int IntKind.i64 (Ch.date x), AV.bool (Ch.first x)]) (0 : Nat))), Blk.arr (1 : Nat) (4 : Nat) (listG (4 : Nat) [AV.str (Ch.party x), AV.str (Ch.name x), AV.int IntKind.i64 (Ch.date x), AV.bool (Ch.first x)])])) (Tree.leaf (Leaf2.ret [AV.agg [AV.osl (3 : Nat) (3 : Nat) (0 : Nat) (List.length f), AV.osl (5 : Nat) (4 : Nat) (0 : Nat) (List.length l + (1 : Nat))], AV.int IntKind.i64 (0 : Int)] [Blk.box [AV.sl (List.length f) (3 : Nat) (fxG f), AV.sl (List.length c) (4 : Nat) (chG c)], Blk.box [AV.str (Ch.party x), AV.str (Ch.name x), AV.int IntKind.i64 (Ch.date x), AV.bool (Ch.first x)], Blk.box [AV.osl (3 : Nat) (3 : Nat) (0 : Nat) (List.length f), AV.osl (5 : Nat) (4 : Nat) (0 : Nat) (List.length l + (1 : Nat))], Blk.arr (List.length f) (3 : Nat) (fxG f), Blk.box [AV.osl (3 : Nat) (3 : Nat) (0 : Nat) (List.length f), AV.osl (5 : Nat) (4 : Nat) (0 : Nat) (List.length l + (1 : Nat))], Blk.arr (List.length l + (1 : Nat)) (4 : Nat) (appG (List.length l) (chG l) (viewG (listG (4 : Nat) [AV.str (Ch.party x), AV.str (Ch.name x), AV.int IntKind.i64 (Ch.date x), AV.bool (Ch.first x)]) (0 : Nat))), Blk.arr (1 : Nat) (4 : Nat) (listG (4 : Nat) [AV.str (Ch.party x), AV.str (Ch.name x), AV.int IntKind.i64 (Ch.date x), AV.bool (Ch.first x)])])))) (Tree.ite (decide ((1000 : Int) < (↑(List.length l) : Int))) (Tree.leaf (Leaf2.ret [AV.agg [AV.nils, AV.nils], AV.int IntKind.i64 (22 : Int)] [Blk.box [AV.sl (List.length f) (3 : Nat) (fxG f), AV.sl (List.length c) (4 : Nat) (chG c)], Blk.box [AV.str (Ch.party x), AV.str (Ch.name x), AV.int IntKind.i64 (Ch.date x), AV.bool (Ch.first x)], Blk.box [AV.nils, AV.nils], Blk.arr (List.length f) (3 : Nat) (fxG f), Blk.box [AV.osl (3 : Nat) (3 : Nat) (0 : Nat) (List.length f), AV.osl (5 : Nat) (4 : Nat) (0 : Nat) (List.length l)], Blk.arr (List.length l) (4 : Nat) (chG l)])) (Tree.leaf (Leaf2.ret [AV.agg [AV.osl (3 : Nat) (3 : Nat) (0 : Nat) (List.length f), AV.osl (5 : Nat) (4 : Nat) (0 : Nat) (List.length l)], AV.int IntKind.i64 (0 : Int)] [Blk.box [AV.sl (List.length f) (3 : Nat) (fxG f), AV.sl (List.length c) (4 : Nat) (chG c)], Blk.box [AV.str (Ch.party x), AV.str (Ch.name x), AV.int IntKind.i64 (Ch.date x), AV.bool (Ch.first x)], Blk.box [AV.osl (3 : Nat) (3 : Nat) (0 : Nat) (List.length f), AV.osl (5 : Nat) (4 : Nat) (0 : Nat) (List.length l)], Blk.arr (List.length f) (3 : Nat) (fxG f), Blk.box [AV.osl (3 : Nat) (3 : Nat) (0 : Nat) (List.length f), AV.osl (5 : Nat) (4 : Nat) (0 : Nat) (List.length l)], Blk.arr (List.length l) (4 : Nat) (chG l)]))))) (by kernel_rfl) ?_
    simp only [Tree.holds, Leafs2, inR, lo, hi, Int.toNat_natCast, cmpC_test]
    refine ⟨fun hlt => ?_, fun hge => ?_⟩
    · have hlt : i < c.length := by have := of_decide_eq_true hlt; omega
      rw [ref_drop (z := Ch.nil) hlt] at hlr
      obtain ⟨o, ho⟩ : ∃ o, c.getD i Ch.nil = o := ⟨_, rfl⟩
      simp only [ho] at hlr ⊢
      have hbk : ∀ (l' : List Ch) (put' : Bool) (kv : KV) (h : Heap), l' ++ refL cmpC x put' (c.drop (i + 1)) = refL cmpC x false c → l'.length ≤ 2 * (i + 1) → LeK 0 Try.f9.ntmps kv h (SCo put' (i + 1)) (HCo f c x l') →
          ∃ x' : {p : Nat × Bool × List Ch // p.1 ≤ c.length ∧ p.2.2 ++ refL cmpC x p.2.1 (c.drop p.1) = refL cmpC x false c ∧ p.2.2.length ≤ 2 * p.1}, c.length - x'.1.1 < c.length - i ∧ LeK 0 Try.f9.ntmps kv h (SCo x'.1.2.1 x'.1.1) (HCo f c x x'.1.2.2) := fun l' put' kv h g1 g2 g3 => ⟨⟨(i + 1, put', l'), hlt, g1, g2⟩, by show c.length - (i + 1) < c.length - i; omega, g3⟩
      refine ⟨by omega, fun _ => ⟨(o, x), fun _ => ⟨by simp, trivial⟩, ⟨_, fun _ => rfl⟩, ?_⟩⟩
      intro b hb
      have hput : (bif !put then !b else false) = true → put = false ∧ ¬ cmpC o x < 0 := fun h => by
        cases put with
        | true => cases h
        | false => rw [hb rfl] at h; exact ⟨rfl, by simpa using h⟩
      have hput2 : (bif !put then !b else false) = false → (put || !decide (cmpC o x < 0)) = put ∧ ¬ (put = false ∧ ¬ cmpC o x < 0) := fun h => by
        cases put with
        | true => exact ⟨rfl, by simp⟩
        | false =>
          rw [hb rfl] at h
          have h : cmpC o x < 0 := by simpa using h
          rw [decide_eq_true h]
          exact ⟨rfl, fun h2 => h2.2 h⟩
      refine ⟨fun h => ?_, fun h => ?_⟩
      · obtain ⟨hp, hn⟩ := hput h
        rw [if_pos ⟨hp, hn⟩, decide_eq_false hn, Bool.not_false, Bool.or_true] at hlr
        refine ⟨⟨trivial, Nat.le_refl _, by omega⟩, fun _ => ⟨fun h2 => ?_, fun h2 => ⟨by omega, fun _ => ?_⟩⟩⟩
        · have h2 : ¬ cmpC o x = 0 := by simpa using h2
          rw [if_neg h2] at hlr
          refine ⟨⟨trivial, Nat.le_refl _, by omega⟩, fun _ => ⟨by omega, fun _ => ?_⟩⟩
          rw [if_pos trivial]
          refine hbk (l ++ [x] ++ [o]) true _ _ (by simpa using hlr) (by simp; omega) ⟨by simp [SCo], ⟨by simp [fxS, chS, eqG_refl], by simp, by simp, by simp [eqG_refl], by simp, ⟨by simp, rfl, ?_⟩, trivial⟩, by kernel_rfl, Nat.zero_le _⟩
          have := ch_push (x := o) (l := l ++ [x]) (g := appG l.length (chG l) (viewG (listG 4 [.str x.party, .str x.name, .int .i64 x.date, .bool x.first]) 0)) (by simpa using ch_push (eqG_refl _ _ _))
          simpa using this
        · have h2 : cmpC o x = 0 := by simpa using h2
          rw [if_pos h2] at hlr
          rw [if_pos trivial]
          refine hbk (l ++ [x]) true _ _ (by simpa using hlr) (by simp; omega) ⟨by simp [SCo], ⟨by simp [fxS, chS, eqG_refl], by simp, by simp, by simp [eqG_refl], by simp, ⟨by simp, rfl, ?_⟩, trivial⟩, by kernel_rfl, Nat.zero_le _⟩
          exact ch_push (eqG_refl _ _ _)
      · obtain ⟨hp, hn⟩ := hput2 h
        rw [if_neg hn, hp] at hlr
        refine ⟨fun h2 => ?_, fun h2 => ⟨by omega, fun _ => ?_⟩⟩
        · have h2 : ¬ cmpC o x = 0 := by simpa using h2
          rw [if_neg h2] at hlr
          refine ⟨⟨trivial, Nat.le_refl _, by omega⟩, fun _ => ⟨by omega, fun _ => ?_⟩⟩
          rw [if_pos trivial]
          refine hbk (l ++ [o]) put _ _ (by simpa using hlr) (by simp; omega) ⟨by simp [SCo], ⟨by simp [fxS, chS, eqG_refl], by simp, by simp, by simp [eqG_refl], by simp, ⟨by simp, rfl, ?_⟩, trivial⟩, by kernel_rfl, Nat.zero_le _⟩
          exact ch_push (eqG_refl _ _ _)
        · have h2 : cmpC o x = 0 := by simpa using h2
          rw [if_pos h2] at hlr
          rw [if_pos trivial]
          exact hbk l put _ _ (by simpa using hlr) (by omega) ⟨by simp [SCo], by simp [HCo, fxS, chS, eqG_refl], by kernel_rfl, Nat.zero_le _⟩
    · have hge : i = c.length := by have := of_decide_eq_false hge; omega
      subst hge
      rw [List.drop_length] at hlr
      simp only [refL] at hlr
      refine ⟨fun h => ⟨⟨trivial, Nat.le_refl _, by omega⟩, fun _ => ?_⟩, fun h => ?_⟩
      · have hp : put = false := by simpa using h
        rw [hp, if_neg (by simp)] at hlr
        rw [← hlr] at hq
        simp only [List.length_append, List.length_cons, List.length_nil] at hq
        refine ⟨fun h3 => ?_, fun h3 => ?_⟩
        · have h3 : 1000 < l.length + (0 + 1) := by have := of_decide_eq_true h3; omega
          simp only [if_pos h3] at hq
          exact RetR.out0 hq (fun _ => by simp [resV, new2, new1, new0, scalA]) (by simp [resV, exp2, exp1, exp0, ren0, eqA2, eqL1, envA, fxS, chS])
        · have h3 : ¬ 1000 < l.length + (0 + 1) := by have := of_decide_eq_false h3; omega
          simp only [if_neg h3] at hq
          have e1 := ch_push (x := x) (eqG_refl l.length 4 (chG l))
          refine RetR.out0 hq (fun _ => ?_) ?_
          · simp only [resV, new2, List.mem_cons, List.not_mem_nil, or_false, forall_eq_or_imp, forall_eq, new1]
            exact ⟨⟨new0_own (i := 3) rfl (by omega) fun j o hj ho => by simp only [viewG, Nat.zero_add]; exact fx_scal _ _ _ ho, new0_own (i := 5) rfl (by omega) fun j o hj ho => by simp only [viewG, Nat.zero_add]; rw [e1 j o hj ho]; exact ch_scal _ _ _ ho⟩, rfl⟩
          · simp only [resV, exp2, List.map_cons, List.map_nil, exp1]
            rw [exp0_own (i := 3) rfl (by omega), exp0_own (i := 5) rfl (by omega)]
            simp [eqA2, eqL1, envA, fxS, chS, exp0, ren0, eqG_view0, eqG_refl]
            exact fun j o hj ho => by simp only [viewG, Nat.zero_add]; exact e1 j o hj ho
      · have hp : put = true := by simpa using h
        rw [hp, if_pos rfl, List.append_nil] at hlr
        rw [← hlr] at hq
        refine ⟨fun h3 => ?_, fun h3 => ?_⟩
        · have h3 : 1000 < l.length := by have := of_decide_eq_true h3; omega
          simp only [if_pos h3] at hq
          exact RetR.out0 hq (fun _ => by simp [resV, new2, new1, new0, scalA]) (by simp [resV, exp2, exp1, exp0, ren0, eqA2, eqL1, envA, fxS, chS])
        · have h3 : ¬ 1000 < l.length := by have := of_decide_eq_false h3; omega
          simp only [if_neg h3] at hq
          refine RetR.out0 hq (fun _ => ?_) ?_
          · simp only [resV, new2, List.mem_cons, List.not_mem_nil, or_false, forall_eq_or_imp, forall_eq, new1]
            exact ⟨⟨new0_own (i := 3) rfl (by omega) fun j o hj ho => by simp only [viewG, Nat.zero_add]; exact fx_scal _ _ _ ho, new0_own (i := 5) rfl (by omega) fun j o hj ho => by simp only [viewG, Nat.zero_add]; exact ch_scal _ _ _ ho⟩, rfl⟩
          · simp only [resV, exp2, List.map_cons, List.map_nil, exp1]
            rw [exp0_own (i := 3) rfl (by omega), exp0_own (i := 5) rfl (by omega)]
            simp [eqA2, eqL1, envA, fxS, chS, exp0, ren0, eqG_view0, eqG_refl]
theorem rcho_ok : CtrOK Try.prog 9 rchoC := by
  refine fn_ctrP (fn := Try.f9) (c := Try.f9.body.getD .skip) rfl rfl rfl fun p hp O w0 Q hq => ?_
  obtain ⟨⟨f, c⟩, ⟨a, v, d, b⟩⟩ := p
  obtain ⟨he, hs1, hs2⟩ := hp
  replace hq := hq _ rfl
  simp only at hq he hs1 hs2
  refine SafeK.run (k := K9) hmix GV2_ok [2, 3, 4, 6, 7, 8, 53, 54, 55, 56, 70, 71, 72, 73, 74, 77, 78, 79, 80, 81] 400 (T := Tree.ex (fun (x : List Fx × List Ch) => eqL [AV.agg [AV.sl (List.length f) (3 : Nat) (fxG f), AV.sl (List.length c) (4 : Nat) (chG c)]] [AV.agg [AV.sl (List.length (Prod.fst x)) (3 : Nat) (fxG (Prod.fst x)), AV.sl (List.length (Prod.snd x)) (4 : Nat) (chG (Prod.snd x))]] ∧ envP x) fun (n : List Fx × List Ch) => Tree.all (fun (r : Int) => r = errE (Prod.fst n) (Prod.snd n)) fun (n : Int) => Tree.ite (!decide (n = (0 : Int))) (Tree.ex (fun (x : List Fx × List Ch) => eqL [AV.agg [AV.sl (List.length f) (3 : Nat) (fxG f), AV.sl (List.length c) (4 : Nat) (chG c)]] [AV.agg [AV.sl (List.length (Prod.fst x)) (3 : Nat) (fxG (Prod.fst x)), AV.sl (List.length (Prod.snd x)) (4 : Nat) (chG (Prod.snd x))]] ∧ envP x) fun (n : List Fx × List Ch) => Tree.all (fun (r : Int) => r = errE (Prod.fst n) (Prod.snd n)) fun (n : Int) => Tree.leaf (Leaf2.ret [AV.agg [AV.nils, AV.nils], AV.int IntKind.i64 n] [Blk.box [AV.sl (List.length f) (3 : Nat) (fxG f), AV.sl (List.length c) (4 : Nat) (chG c)], Blk.box [AV.str a, AV.str v, AV.int IntKind.i64 d, AV.bool b], Blk.box [AV.nils, AV.nils]])) (Tree.ex (fun (x : List UInt8) => eqL [AV.str a] [AV.str x] ∧ List.length x < (4611686018427387904 : Nat)) fun (n : List UInt8) => Tree.all (fun (r : Bool) => r = nameB n) fun (n : Bool) => Tree.ex (fun (x : List UInt8) => (!n) = false → eqL [AV.str v] [AV.str x] ∧ List.length x < (4611686018427387904 : Nat)) fun (n_1 : List UInt8) => Tree.all (fun (x : Bool) => (!n) = false → x = nameB n_1) fun (n_2 : Bool) => Tree.ex (fun (x : Int) => (bif !n then true else !n_2) = false → eqL [AV.int IntKind.i64 d] [AV.int IntKind.i64 x] ∧ True) fun (n_3 : Int) => Tree.all (fun (x : Bool) => (bif !n then true else !n_2) = false → x = dayB n_3) fun (n_4 : Bool) => Tree.ite (bif bif !n then true else !n_2 then true else !n_4) (Tree.leaf (Leaf2.ret [AV.agg [AV.nils, AV.nils], AV.int IntKind.i64 (2 : Int)] [Blk.box [AV.sl (List.length f) (3 : Nat) (fxG f), AV.sl (List.length c) (4 : Nat) (chG c)], Blk.box [AV.str a, AV.str v, AV.int IntKind.i64 d, AV.bool b], Blk.box [AV.nils, AV.nils]])) (Tree.side ((0 : Nat) = (0 : Nat) ∧ (0 : Nat) ≤ (0 : Nat) ∧ ((0 : Nat) + List.length f) * (40 : Nat) ≤ (140737488355328 : Nat)) (Tree.leaf (Leaf2.loop (Prod.fst (lps K9 (0 : Nat))) (Prod.snd (lps K9 (0 : Nat))) [((2 : Nat), AV.ptr (0 : Nat) (0 : Nat)), ((3 : Nat), AV.ptr (1 : Nat) (0 : Nat)), ((4 : Nat), AV.ptr (2 : Nat) (0 : Nat)), ((6 : Nat), AV.ptr (4 : Nat) (0 : Nat)), ((7 : Nat), AV.bool false), ((8 : Nat), AV.int IntKind.i64 (0 : Int)), ((53 : Nat), AV.undef), ((54 : Nat), AV.undef), ((55 : Nat), AV.undef), ((56 : Nat), AV.undef), ((70 : Nat), AV.undef), ((71 : Nat), AV.undef), ((72 : Nat), AV.undef), ((73 : Nat), AV.undef), ((74 : Nat), AV.undef), ((77 : Nat), AV.undef), ((78 : Nat), AV.undef), ((79 : Nat), AV.undef), ((80 : Nat), AV.undef), ((81 : Nat), AV.undef)] [Blk.box [AV.sl (List.length f) (3 : Nat) (fxG f), AV.sl (List.length c) (4 : Nat) (chG c)], Blk.box [AV.str a, AV.str v, AV.int IntKind.i64 d, AV.bool b], Blk.box [AV.nils, AV.nils], Blk.arr ((0 : Nat) + List.length f) (3 : Nat) (appG (0 : Nat) (listG (3 : Nat) []) (fxG f)), Blk.box [AV.osl (3 : Nat) (3 : Nat) (0 : Nat) ((0 : Nat) + List.length f), AV.nils]]))))) (by kernel_rfl) ?_
  simp only [Tree.holds, Leafs2]
  have bad : ∀ (e : Int) (h : Heap), putC f c ⟨a, v, d, b⟩ = (([], []), e) → RetR rchoC 0 Q [.agg [.nils, .nils], .int .i64 e] h := fun e h hr => by
    rw [hr] at hq
    exact RetR.out0 hq (fun _ => by simp [resV, new2, new1, new0, scalA]) (by simp [resV, exp2, exp1, exp0, ren0, eqA2, eqL1, envA, fxS, chS])
  refine ⟨(f, c), ⟨by simp [eqG_refl], he⟩, ⟨_, rfl⟩, ?_⟩
  rintro _ rfl
  refine ⟨fun h => ?_, fun h => ?_⟩
  · have h : errE f c ≠ 0 := by simpa using h
    refine ⟨(f, c), ⟨by simp [eqG_refl], he⟩, ⟨_, rfl⟩, ?_⟩
    rintro _ rfl
    exact bad _ _ (by simp [putC, h])
  · have h : errE f c = 0 := by simpa using h
    refine ⟨a, ⟨by simp, by omega⟩, ⟨_, rfl⟩, ?_⟩
    rintro _ rfl
    refine ⟨v, fun _ => ⟨by simp, by omega⟩, ⟨_, fun _ => rfl⟩, ?_⟩
    intro b1 g1
    refine ⟨d, fun _ => ⟨by simp, trivial⟩, ⟨_, fun _ => rfl⟩, ?_⟩
    intro b2 g2
    have key : (bif bif !nameB a then true else !b1 then true else !b2) = !okC ⟨a, v, d, b⟩ := by
      simp only [okC]
      cases hn : nameB a with
      | false => rfl
      | true =>
        have g1 := g1 (by rw [hn]; rfl)
        subst g1
        cases hv : nameB v with
        | false => rfl
        | true => rw [g2 (by rw [hn, hv]; rfl)]; rfl
    rw [key]
    refine ⟨fun h2 => ?_, fun h2 => ?_⟩
    · exact bad _ _ (by simp only [putC]; rw [if_neg (by simp [h]), if_pos (by simpa only [Bool.not_eq_true'] using h2)])
    · have h2 : ¬ okC ⟨a, v, d, b⟩ = false := by simpa using h2
      obtain ⟨hb, _, _, _, ho⟩ := errE_0.1 h
      have hpl : refL cmpC ⟨a, v, d, b⟩ false c = placeL cmpC ⟨a, v, d, b⟩ c := refL_place ordC_k (pair_of ordC_k ho)
      have hr : putC f c ⟨a, v, d, b⟩ = if 1000 < (refL cmpC ⟨a, v, d, b⟩ false c).length then (([], []), 22) else ((f, refL cmpC ⟨a, v, d, b⟩ false c), 0) := by
        simp only [putC]; rw [if_neg (by simp [h]), if_neg h2, hpl]
      rw [hr] at hq
      refine ⟨⟨trivial, Nat.le_refl _, by omega⟩, fun _ => ?_⟩
      exact rcho_loop f c ⟨a, v, d, b⟩ (by omega) (by omega) hq
end Go.Proofs.Try
end

/- What is known: size; the code's finding. -/
section
set_option linter.unusedVariables false
set_option linter.unusedSimpArgs false
set_option maxRecDepth 100000
open Go Go.Sx Go.Proofs Go.Nov
namespace Go.Proofs.Try
attribute [local simp] eqKV eqA eqA0 eqH eqB eqL eqL0
noncomputable def K4 : List Go.Sx.Item := [.code (Try.f4.body.getD .skip)]
noncomputable def K29 : List Go.Sx.Item := [.code (Try.f29.body.getD .skip)]
noncomputable def K22 : List Go.Sx.Item := [.code (Try.f22.body.getD .skip)]
noncomputable def K54 : List Go.Sx.Item := [.code (Try.f54.body.getD .skip)]
noncomputable def K56 : List Go.Sx.Item := [.code (Try.f56.body.getD .skip)]
noncomputable def K31 : List Go.Sx.Item := [.code (Try.f31.body.getD .skip)]
noncomputable def K38 : List Go.Sx.Item := [.code (Try.f38.body.getD .skip)]
noncomputable def K10 : List Go.Sx.Item := [.code (Try.f10.body.getD .skip)]
noncomputable def K15 : List Go.Sx.Item := [.code (Try.f15.body.getD .skip)]

def hugeF (f : Fx) : Prop := f.name.length < 2 ^ 49 ∧ f.value.length < 2 ^ 49
def hugeC (c : Ch) : Prop := c.party.length < 2 ^ 49 ∧ c.name.length < 2 ^ 49
def fitP (p : List Fx × List Ch) : Prop := p.1.length ≤ 1100 ∧ p.2.length ≤ 1100 ∧ (∀ j, j < p.1.length → (p.1.getD j Fx.nil).name.length ≤ 20000 ∧ (p.1.getD j Fx.nil).value.length ≤ 20000) ∧ ∀ j, j < p.2.length → (p.2.getD j Ch.nil).party.length ≤ 20000 ∧ (p.2.getD j Ch.nil).name.length ≤ 20000
def greatC : Ctr := ctrP true (fun p : List Fx × List Ch => [envA p.1 p.2]) (fun p => p.1.length < 2 ^ 60 ∧ p.2.length < 2 ^ 60 ∧ (∀ j, j < p.1.length → hugeF (p.1.getD j Fx.nil)) ∧ ∀ j, j < p.2.length → hugeC (p.2.getD j Ch.nil)) (fun p r => r = false → fitP p) (fun _ (r : Bool) => (.bool r, []))
def SGq (n i : Nat) : KV := [(1, .ptr 0 0), (3, .int .i64 (n : Int)), (4, .int .i64 (i : Int)), (5, .undef)]
def SGq2 (n i : Nat) : KV := [(1, .ptr 0 0), (3, .int .i64 (n : Int)), (4, .undef), (5, .int .i64 (i : Int))]
theorem great_loop2 {O : Nat → Prop} {w0 : World} {Q : AV × Heap → Prop} {Hs : Nat → KV → Heap → Prop} (f : List Fx) (c : List Ch) (n : Nat) (hf : f.length ≤ 1100) (hc : c.length ≤ 1100) (h3 : ∀ j, j < c.length → hugeC (c.getD j Ch.nil)) (hn : n ≤ 1100 * 2 ^ 50) (hnf : ∀ j, j < f.length → (f.getD j Fx.nil).name.length ≤ n ∧ (f.getD j Fx.nil).value.length ≤ n)
    (hq : ∀ r : Bool, (r = false → fitP (f, c)) → Q (.bool r, [])) (kv : KV) (h : Heap) (hle : LeK 0 Try.f4.ntmps kv h (SGq2 n 0) (HE f c)) :
    SafeK Try.prog Try.f4 O 0 w0 [] Hs (RetR greatC 0 Q) (.code (.loop (lps (inside K4 0) 0).1) :: (lps (inside K4 0) 0).2) (mk Try.f4.ntmps kv h) := by
  refine SafeK.loop (ι := {p : Nat × Nat // p.2 ≤ c.length ∧ n ≤ p.1 ∧ p.1 ≤ (1100 + p.2) * 2 ^ 50 ∧ ∀ j, j < p.2 → (c.getD j Ch.nil).party.length ≤ p.1 ∧ (c.getD j Ch.nil).name.length ≤ p.1}) (fun p => SGq2 p.1.1 p.1.2) (fun _ => HE f c) (fun p => c.length - p.1.2) ⟨(n, 0), Nat.zero_le _, Nat.le_refl _, by simpa using hn, fun j hj => by simp at hj⟩ 0 hle ?_ (by kernel_rfl)
  rintro ⟨⟨m, i⟩, hil, hnm, hm, hib⟩
  simp only at hil hnm hm hib
  refine SafeK.run (k := inside (inside K4 0) 0) hmix noG_ok [1, 3, 4, 5] 400 (T := Tree.ite (decide ((↑i : Int) < (↑(List.length c) : Int))) (Tree.side ((0 : Int) ≤ (↑i : Int) ∧ (↑i : Int) < (↑(List.length c) : Int)) (Tree.side (inR IntKind.i64 ((↑m : Int) + (↑(List.length (Ch.party (List.getD c (Int.toNat (↑i : Int)) Ch.nil))) : Int))) (Tree.side ((0 : Int) ≤ (↑i : Int) ∧ (↑i : Int) < (↑(List.length c) : Int)) (Tree.side (inR IntKind.i64 ((↑m : Int) + (↑(List.length (Ch.party (List.getD c (Int.toNat (↑i : Int)) Ch.nil))) : Int) + (↑(List.length (Ch.name (List.getD c (Int.toNat (↑i : Int)) Ch.nil))) : Int))) (Tree.side (inR IntKind.i64 ((↑i : Int) + (1 : Int))) (Tree.leaf (Leaf2.back (0 : Nat) [((1 : Nat), AV.ptr (0 : Nat) (0 : Nat)), ((3 : Nat), AV.int IntKind.i64 ((↑m : Int) + (↑(List.length (Ch.party (List.getD c (Int.toNat (↑i : Int)) Ch.nil))) : Int) + (↑(List.length (Ch.name (List.getD c (Int.toNat (↑i : Int)) Ch.nil))) : Int))), ((4 : Nat), AV.undef), ((5 : Nat), AV.int IntKind.i64 ((↑i : Int) + (1 : Int)))] [Blk.box [AV.sl (List.length f) (3 : Nat) (fxG f), AV.sl (List.length c) (4 : Nat) (chG c)]]))))))) (Tree.leaf (Leaf2.ret [AV.bool (decide ((20000 : Int) < (↑m : Int)))] [Blk.box [AV.sl (List.length f) (3 : Nat) (fxG f), AV.sl (List.length c) (4 : Nat) (chG c)]]))) (by kernel_rfl) ?_
  simp only [Tree.holds, Leafs2, inR, lo, hi, Int.toNat_natCast]
  refine ⟨fun hlt => ?_, fun hge => ?_⟩
  · have hlt : i < c.length := by have := of_decide_eq_true hlt; omega
    obtain ⟨g1, g2⟩ := h3 i hlt
    iterate 5 refine ⟨by omega, fun _ => ?_⟩
    rw [if_pos trivial]
    refine ⟨⟨(m + (c.getD i Ch.nil).party.length + (c.getD i Ch.nil).name.length, i + 1), hlt, by simp only; omega, by simp only; omega, fun j hj => ?_⟩, by show c.length - (i + 1) < c.length - i; omega, by simp [SGq2], by simp [HE, fxS, chS, eqG_refl], by kernel_rfl, Nat.zero_le _⟩
    simp only at hj ⊢
    rcases Nat.lt_or_ge j i with h1 | h1
    · have := hib j h1; omega
    · have : j = i := by omega
      rw [this]; omega
  · have hge : i = c.length := by have := of_decide_eq_false hge; omega
    subst hge
    refine RetR.scal (hq (decide (20000 < (m : Int))) fun h => ?_) rfl (by simp [resV])
    have h := of_decide_eq_false h
    exact ⟨hf, hc, fun j hj => by have := hnf j hj; simp only; omega, fun j hj => by have := hib j hj; simp only; omega⟩
theorem great_ok : CtrOK Try.prog 4 greatC := by
  refine fn_ctrP (fn := Try.f4) (c := Try.f4.body.getD .skip) rfl rfl rfl fun p hp O w0 Q hq => ?_
  obtain ⟨f, c⟩ := p
  obtain ⟨h1, h2, h3, h4⟩ := hp
  simp only at hq h1 h2 h3 h4
  refine SafeK.run (k := K4) hmix noG_ok [1, 3, 4, 5] 400 (T := Tree.ite (bif decide ((1100 : Int) < (↑(List.length f) : Int)) then true else decide ((1100 : Int) < (↑(List.length c) : Int))) (Tree.leaf (Leaf2.ret [AV.bool true] [Blk.box [AV.sl (List.length f) (3 : Nat) (fxG f), AV.sl (List.length c) (4 : Nat) (chG c)]])) (Tree.leaf (Leaf2.loop (Prod.fst (lps K4 (0 : Nat))) (Prod.snd (lps K4 (0 : Nat))) [((1 : Nat), AV.ptr (0 : Nat) (0 : Nat)), ((3 : Nat), AV.int IntKind.i64 (0 : Int)), ((4 : Nat), AV.int IntKind.i64 (0 : Int)), ((5 : Nat), AV.undef)] [Blk.box [AV.sl (List.length f) (3 : Nat) (fxG f), AV.sl (List.length c) (4 : Nat) (chG c)]]))) (by kernel_rfl) ?_
  simp only [Tree.holds, Leafs2]
  refine ⟨fun h => ?_, fun h => ?_⟩
  · exact RetR.scal (hq true fun h => (by cases h)) rfl (by simp [resV])
  · have hbig : f.length ≤ 1100 ∧ c.length ≤ 1100 := by
      rw [Bool.cond_eq_ite] at h
      split at h
      · cases h
      · rename_i g1
        have g2 := of_decide_eq_false h
        have g1 := of_decide_eq_false (by simpa using g1 : decide (1100 < (f.length : Int)) = false)
        omega
    obtain ⟨hf, hc⟩ := hbig
    refine SafeK.loop (ι := {p : Nat × Nat // p.2 ≤ f.length ∧ p.1 ≤ p.2 * 2 ^ 50 ∧ ∀ j, j < p.2 → (f.getD j Fx.nil).name.length ≤ p.1 ∧ (f.getD j Fx.nil).value.length ≤ p.1}) (fun p => SGq p.1.1 p.1.2) (fun _ => HE f c) (fun p => f.length - p.1.2) ⟨(0, 0), Nat.zero_le _, by simp, fun j hj => by simp at hj⟩ 0 ?_ ?_ (by kernel_rfl)
    · exact ⟨by simp [SGq], by simp [HE, fxS, chS, eqG_refl], by kernel_rfl, Nat.zero_le _⟩
    · rintro ⟨⟨m, i⟩, hil, hm, hib⟩
      simp only at hil hm hib
      refine SafeK.run (k := inside K4 0) hmix noG_ok [1, 3, 4, 5] 400 (T := Tree.ite (decide ((↑i : Int) < (↑(List.length f) : Int))) (Tree.side ((0 : Int) ≤ (↑i : Int) ∧ (↑i : Int) < (↑(List.length f) : Int)) (Tree.side (inR IntKind.i64 ((↑m : Int) + (↑(List.length (Fx.name (List.getD f (Int.toNat (↑i : Int)) Fx.nil))) : Int))) (Tree.side ((0 : Int) ≤ (↑i : Int) ∧ (↑i : Int) < (↑(List.length f) : Int)) (Tree.side (inR IntKind.i64 ((↑m : Int) + (↑(List.length (Fx.name (List.getD f (Int.toNat (↑i : Int)) Fx.nil))) : Int) + (↑(List.length (Fx.value (List.getD f (Int.toNat (↑i : Int)) Fx.nil))) : Int))) (Tree.side (inR IntKind.i64 ((↑i : Int) + (1 : Int))) (Tree.leaf (Leaf2.back (0 : Nat) [((1 : Nat), AV.ptr (0 : Nat) (0 : Nat)), ((3 : Nat), AV.int IntKind.i64 ((↑m : Int) + (↑(List.length (Fx.name (List.getD f (Int.toNat (↑i : Int)) Fx.nil))) : Int) + (↑(List.length (Fx.value (List.getD f (Int.toNat (↑i : Int)) Fx.nil))) : Int))), ((4 : Nat), AV.int IntKind.i64 ((↑i : Int) + (1 : Int))), ((5 : Nat), AV.undef)] [Blk.box [AV.sl (List.length f) (3 : Nat) (fxG f), AV.sl (List.length c) (4 : Nat) (chG c)]]))))))) (Tree.leaf (Leaf2.loop (Prod.fst (lps (inside K4 (0 : Nat)) (0 : Nat))) (Prod.snd (lps (inside K4 (0 : Nat)) (0 : Nat))) [((1 : Nat), AV.ptr (0 : Nat) (0 : Nat)), ((3 : Nat), AV.int IntKind.i64 (↑m : Int)), ((4 : Nat), AV.int IntKind.i64 (↑i : Int)), ((5 : Nat), AV.int IntKind.i64 (0 : Int))] [Blk.box [AV.sl (List.length f) (3 : Nat) (fxG f), AV.sl (List.length c) (4 : Nat) (chG c)]]))) (by kernel_rfl) ?_
      simp only [Tree.holds, Leafs2, inR, lo, hi, Int.toNat_natCast]
      refine ⟨fun hlt => ?_, fun hge => ?_⟩
      · have hlt : i < f.length := by have := of_decide_eq_true hlt; omega
        obtain ⟨g1, g2⟩ := h3 i hlt
        iterate 5 refine ⟨by omega, fun _ => ?_⟩
        rw [if_pos trivial]
        refine ⟨⟨(m + (f.getD i Fx.nil).name.length + (f.getD i Fx.nil).value.length, i + 1), hlt, by simp only; omega, fun j hj => ?_⟩, by show f.length - (i + 1) < f.length - i; omega, by simp [SGq], by simp [HE, fxS, chS, eqG_refl], by kernel_rfl, Nat.zero_le _⟩
        simp only at hj ⊢
        rcases Nat.lt_or_ge j i with h1 | h1
        · have := hib j h1; omega
        · have : j = i := by omega
          rw [this]; omega
      · have hge : i = f.length := by have := of_decide_eq_false hge; omega
        subst hge
        exact great_loop2 f c m hf hc h4 (Nat.le_trans hm (Nat.mul_le_mul_right _ hf)) hib hq _ _ ⟨by simp [SGq2], by simp [HE, fxS, chS, eqG_refl], by kernel_rfl, Nat.zero_le _⟩
def cloneFC : Ctr := ctrP true (fun l : List Fx => [fxS l]) (fun l => l.length < 2 ^ 40) (fun _ (_ : Unit) => True) (fun l _ => (.osl 0 3 0 l.length, [.arr l.length 3 (fxG l)]))
def cloneCC : Ctr := ctrP true (fun l : List Ch => [chS l]) (fun l => l.length < 2 ^ 40) (fun _ (_ : Unit) => True) (fun l _ => (.osl 0 4 0 l.length, [.arr l.length 4 (chG l)]))
theorem cloneF_ok : CtrOK Try.prog 29 cloneFC := by
  refine fn_ctrPN (fn := Try.f29) (c := Try.f29.body.getD .skip) rfl rfl rfl fun l hl O w0 Q hq => ?_
  replace hq := hq () trivial
  refine SafeK.run (k := K29) hmix noG_ok [] 400 (T := Tree.all (fun (b : Bool) => (0 : Nat) < List.length l → b = false) fun (n : Bool) => Tree.ite n (Tree.leaf (Leaf2.ret [AV.nils] [])) (Tree.side ((0 : Nat) = (0 : Nat) ∧ (0 : Nat) ≤ (0 : Nat) ∧ ((0 : Nat) + List.length l) * (40 : Nat) ≤ (140737488355328 : Nat)) (Tree.leaf (Leaf2.ret [AV.osl (0 : Nat) (3 : Nat) (0 : Nat) ((0 : Nat) + List.length l)] [Blk.arr ((0 : Nat) + List.length l) (3 : Nat) (appG (0 : Nat) (listG (3 : Nat) []) (fxG l))])))) (by kernel_rfl) ?_
  simp only [Tree.holds, Leafs2]
  refine ⟨⟨false, fun _ => rfl⟩, fun b hb => ⟨fun h => ?_, fun h => ⟨⟨trivial, Nat.le_refl _, by omega⟩, fun _ => ?_⟩⟩⟩
  · have h0 : l = [] := by
      rcases Nat.eq_zero_or_pos l.length with h0 | h0
      · exact List.length_eq_zero_iff.1 h0
      · rw [hb h0] at h; cases h
    subst h0
    refine RetR.scal (.inr ⟨.osl 0 3 0 0, [(3, fxG [])], by simp [upA2, upA1, upA0], ?_⟩) (r := .nils) rfl (by simp [resV])
    exact hq
  · refine RetR.outs [0] rfl rfl (.inl hq) (fun _ => ⟨?_, ?_⟩) ?_ ?_ rfl
    · simp [resV, new2, new1, new0, posIn]
    · simp only [List.mem_cons, List.not_mem_nil, or_false, forall_eq]
      exact newB_fx (eqG_app0 _ _ _ _)
    · simp [resV, exp2, exp1, exp0, posIn, eqA2, eqL1]
    · exact ⟨⟨by omega, rfl, eqG_app0 _ _ _ _⟩, trivial⟩
theorem cloneC_ok : CtrOK Try.prog 22 cloneCC := by
  refine fn_ctrPN (fn := Try.f22) (c := Try.f22.body.getD .skip) rfl rfl rfl fun l hl O w0 Q hq => ?_
  replace hq := hq () trivial
  refine SafeK.run (k := K22) hmix noG_ok [] 400 (T := Tree.all (fun (b : Bool) => (0 : Nat) < List.length l → b = false) fun (n : Bool) => Tree.ite n (Tree.leaf (Leaf2.ret [AV.nils] [])) (Tree.side ((0 : Nat) = (0 : Nat) ∧ (0 : Nat) ≤ (0 : Nat) ∧ ((0 : Nat) + List.length l) * (48 : Nat) ≤ (140737488355328 : Nat)) (Tree.leaf (Leaf2.ret [AV.osl (0 : Nat) (4 : Nat) (0 : Nat) ((0 : Nat) + List.length l)] [Blk.arr ((0 : Nat) + List.length l) (4 : Nat) (appG (0 : Nat) (listG (4 : Nat) []) (chG l))])))) (by kernel_rfl) ?_
  simp only [Tree.holds, Leafs2]
  refine ⟨⟨false, fun _ => rfl⟩, fun b hb => ⟨fun h => ?_, fun h => ⟨⟨trivial, Nat.le_refl _, by omega⟩, fun _ => ?_⟩⟩⟩
  · have h0 : l = [] := by
      rcases Nat.eq_zero_or_pos l.length with h0 | h0
      · exact List.length_eq_zero_iff.1 h0
      · rw [hb h0] at h; cases h
    subst h0
    refine RetR.scal (.inr ⟨.osl 0 4 0 0, [(4, chG [])], by simp [upA2, upA1, upA0], ?_⟩) (r := .nils) rfl (by simp [resV])
    exact hq
  · refine RetR.outs [0] rfl rfl (.inl hq) (fun _ => ⟨?_, ?_⟩) ?_ ?_ rfl
    · simp [resV, new2, new1, new0, posIn]
    · simp only [List.mem_cons, List.not_mem_nil, or_false, forall_eq]
      exact newB_ch (eqG_app0 _ _ _ _)
    · simp [resV, exp2, exp1, exp0, posIn, eqA2, eqL1]
    · exact ⟨⟨by omega, rfl, eqG_app0 _ _ _ _⟩, trivial⟩
def HIdF (x : Fx) : Heap := [.box [.fn 21 [] []], .box [.str x.name, .int .i64 x.date, .str x.value]]
def HIdC (x : Ch) : Heap := [.box [.fn 28 [] []], .box [.str x.party, .str x.name, .int .i64 x.date, .bool x.first]]
def idEFC : Ctr := ctrT false false (fun p : Fx × Fx => [p.1.av, .ptr 0 0, .ptr 1 0]) (fun p => HIdF p.2) (fun _ => True) (fun p r => r = decide (cmpF p.1 p.2 = 0)) (fun p (r : Bool) => (.bool r, HIdF p.2))
def idECC : Ctr := ctrT false false (fun p : Ch × Ch => [p.1.av, .ptr 0 0, .ptr 1 0]) (fun p => HIdC p.2) (fun _ => True) (fun p r => r = decide (cmpC p.1 p.2 = 0)) (fun p (r : Bool) => (.bool r, HIdC p.2))
def GI1 : Nat → Option Ctr := fun f => if f = 21 then some fixingsC else if f = 28 then some choicesC else none
theorem GI1_ok : ∀ g c, GI1 g = some c → CtrOK Try.prog g c := by
  intro g c h
  simp only [GI1] at h
  split at h
  · rename_i hg; subst hg; cases h; exact fixings_ok
  split at h
  · rename_i hg; subst hg; cases h; exact choices_ok
  cases h

theorem idEF_ok : CtrOK Try.prog 54 idEFC := by
  refine fn_ctrT (fn := Try.f54) (c := Try.f54.body.getD .skip) rfl rfl rfl (fun h => by cases h) fun p hp O w0 σ0 Q hl0 hq => ?_
  obtain ⟨⟨a, d, v⟩, ⟨b, e, u⟩⟩ := p
  replace hq := hq _ rfl
  simp only at hq
  refine SafeK.run (k := K54) hmix GI1_ok [] 400 (T := Tree.ex (fun (x : Fx × Fx) => eqL [AV.agg [AV.str a, AV.int IntKind.i64 d, AV.str v], AV.agg [AV.str b, AV.int IntKind.i64 e, AV.str u]] [AV.agg [AV.str (Fx.name (Prod.fst x)), AV.int IntKind.i64 (Fx.date (Prod.fst x)), AV.str (Fx.value (Prod.fst x))], AV.agg [AV.str (Fx.name (Prod.snd x)), AV.int IntKind.i64 (Fx.date (Prod.snd x)), AV.str (Fx.value (Prod.snd x))]] ∧ True) fun (n : Fx × Fx) => Tree.all (fun (r : Int) => r = cmpF (Prod.fst n) (Prod.snd n)) fun (n : Int) => Tree.leaf (Leaf2.ret [AV.bool (decide (n = (0 : Int)))] [Blk.box [AV.fn (21 : Nat) [] []], Blk.box [AV.str b, AV.int IntKind.i64 e, AV.str u], Blk.box [AV.str a, AV.int IntKind.i64 d, AV.str v]])) (by kernel_rfl) ?_
  simp only [Tree.holds, Leafs2]
  refine ⟨(⟨a, d, v⟩, ⟨b, e, u⟩), ⟨by simp, trivial⟩, ⟨_, rfl⟩, ?_⟩
  rintro _ rfl
  exact RetR.keep [0, 1] rfl rfl (by show ∀ j, j < 2 → _; decide) rfl hq (by simp [resV, exp2, exp1, exp0, ren0, eqA2]) (by simp [expH, expB, exp1, exp0, ren0, HIdF]) rfl
theorem idEC_ok : CtrOK Try.prog 56 idECC := by
  refine fn_ctrT (fn := Try.f56) (c := Try.f56.body.getD .skip) rfl rfl rfl (fun h => by cases h) fun p hp O w0 σ0 Q hl0 hq => ?_
  obtain ⟨⟨a, v, d, x⟩, ⟨b, u, e, y⟩⟩ := p
  replace hq := hq _ rfl
  simp only at hq
  refine SafeK.run (k := K56) hmix GI1_ok [] 400 (T := Tree.ex (fun (x_1 : Ch × Ch) => eqL [AV.agg [AV.str a, AV.str v, AV.int IntKind.i64 d, AV.bool x], AV.agg [AV.str b, AV.str u, AV.int IntKind.i64 e, AV.bool y]] [AV.agg [AV.str (Ch.party (Prod.fst x_1)), AV.str (Ch.name (Prod.fst x_1)), AV.int IntKind.i64 (Ch.date (Prod.fst x_1)), AV.bool (Ch.first (Prod.fst x_1))], AV.agg [AV.str (Ch.party (Prod.snd x_1)), AV.str (Ch.name (Prod.snd x_1)), AV.int IntKind.i64 (Ch.date (Prod.snd x_1)), AV.bool (Ch.first (Prod.snd x_1))]] ∧ True) fun (n : Ch × Ch) => Tree.all (fun (r : Int) => r = cmpC (Prod.fst n) (Prod.snd n)) fun (n : Int) => Tree.leaf (Leaf2.ret [AV.bool (decide (n = (0 : Int)))] [Blk.box [AV.fn (28 : Nat) [] []], Blk.box [AV.str b, AV.str u, AV.int IntKind.i64 e, AV.bool y], Blk.box [AV.str a, AV.str v, AV.int IntKind.i64 d, AV.bool x]])) (by kernel_rfl) ?_
  simp only [Tree.holds, Leafs2]
  refine ⟨(⟨a, v, d, x⟩, ⟨b, u, e, y⟩), ⟨by simp, trivial⟩, ⟨_, rfl⟩, ?_⟩
  rintro _ rfl
  exact RetR.keep [0, 1] rfl rfl (by show ∀ j, j < 2 → _; decide) rfl hq (by simp [resV, exp2, exp1, exp0, ren0, eqA2]) (by simp [expH, expB, exp1, exp0, ren0, HIdC]) rfl
def SIdF (l : List Fx) (i : Nat) : KV := [(0, fxS l), (1, .fn 54 [] [.ptr 0 0, .ptr 1 0]), (7, .int .i64 (l.length : Int)), (8, .int .i64 (i : Int))]
def SIdC (l : List Ch) (i : Nat) : KV := [(0, chS l), (1, .fn 56 [] [.ptr 0 0, .ptr 1 0]), (7, .int .i64 (l.length : Int)), (8, .int .i64 (i : Int))]
def ixkFC : Ctr := ctrT false false (fun p : List Fx × Fx => [fxS p.1, .fn 54 [] [.ptr 0 0, .ptr 1 0]]) (fun p => HIdF p.2) (fun p => p.1.length < 2 ^ 40) (fun p r => r = idxB (fun x => decide (cmpF x p.2 = 0)) p.1) (fun p (r : Int) => (.int .i64 r, HIdF p.2))
def ixkCC : Ctr := ctrT false false (fun p : List Ch × Ch => [chS p.1, .fn 56 [] [.ptr 0 0, .ptr 1 0]]) (fun p => HIdC p.2) (fun p => p.1.length < 2 ^ 40) (fun p r => r = idxB (fun x => decide (cmpC x p.2 = 0)) p.1) (fun p (r : Int) => (.int .i64 r, HIdC p.2))
def GI2 : Nat → Option Ctr := fun f => if f = 54 then some idEFC else if f = 56 then some idECC else none
theorem GI2_ok : ∀ g c, GI2 g = some c → CtrOK Try.prog g c := by
  intro g c h
  simp only [GI2] at h
  split at h
  · rename_i hg; subst hg; cases h; exact idEF_ok
  split at h
  · rename_i hg; subst hg; cases h; exact idEC_ok
  cases h

theorem ixkF_ok : CtrOK Try.prog 53 ixkFC := by
  refine fn_ctrT (fn := Try.f53) (c := Try.f53.body.getD .skip) rfl rfl rfl (fun h => by cases h) fun p hl O w0 σ0 Q hl0 hq => ?_
  obtain ⟨l, x⟩ := p
  replace hq := hq _ rfl
  simp only at hq hl
  refine SafeK.run (k := K53) hmix GI2_ok [0, 1, 7, 8] 400 (T := Tree.leaf (Leaf2.loop (Prod.fst (lps K53 (0 : Nat))) (Prod.snd (lps K53 (0 : Nat))) [((0 : Nat), AV.sl (List.length l) (3 : Nat) (fxG l)), ((1 : Nat), AV.fn (54 : Nat) [] [AV.ptr (0 : Nat) (0 : Nat), AV.ptr (1 : Nat) (0 : Nat)]), ((7 : Nat), AV.int IntKind.i64 (↑(List.length l) : Int)), ((8 : Nat), AV.int IntKind.i64 (0 : Int))] [Blk.box [AV.fn (21 : Nat) [] []], Blk.box [AV.str (Fx.name x), AV.int IntKind.i64 (Fx.date x), AV.str (Fx.value x)]])) (by kernel_rfl) ?_
  simp only [Tree.holds, Leafs2]
  have fin : ∀ (i : Int) (h : Heap), i = idxB (fun y => decide (cmpF y x = 0)) l → h = HIdF x → RetR ixkFC 2 Q [.int .i64 i] h := by
    intro i h hi2 hh
    subst hh
    rw [← hi2] at hq
    exact RetR.keep [0, 1] rfl rfl (by show ∀ j, j < 2 → _; decide) rfl hq (by simp [resV, exp2, exp1, exp0, ren0, eqA2]) (by simp [expH, expB, exp1, exp0, ren0, HIdF]) rfl
  refine SafeK.loop (ι := {i : Nat // i ≤ l.length ∧ ∀ j, j < i → decide (cmpF (l.getD j Fx.nil) x = 0) = false}) (fun i => SIdF l i.1) (fun _ => HIdF x) (fun i => l.length - i.1) ⟨0, Nat.zero_le _, fun j hj => by omega⟩ 0 ?_ ?_ (by kernel_rfl)
  · exact ⟨by simp [SIdF, fxS, eqG_refl], by simp [HIdF], by kernel_rfl, Nat.le_refl _⟩
  · rintro ⟨i, hil, hib⟩
    refine SafeK.run (k := inside K53 0) hmix GI2_ok [0, 1, 7, 8] 400 (T := Tree.ite (decide ((↑i : Int) < (↑(List.length l) : Int))) (Tree.side ((0 : Int) ≤ (↑i : Int) ∧ (↑i : Int) < (↑(List.length l) : Int)) (Tree.ex (fun (x_1 : Fx × Fx) => eqL [AV.agg [AV.str (Fx.name (List.getD l (Int.toNat (↑i : Int)) Fx.nil)), AV.int IntKind.i64 (Fx.date (List.getD l (Int.toNat (↑i : Int)) Fx.nil)), AV.str (Fx.value (List.getD l (Int.toNat (↑i : Int)) Fx.nil))], AV.ptr (0 : Nat) (0 : Nat), AV.ptr (1 : Nat) (0 : Nat)] [AV.agg [AV.str (Fx.name (Prod.fst x_1)), AV.int IntKind.i64 (Fx.date (Prod.fst x_1)), AV.str (Fx.value (Prod.fst x_1))], AV.ptr (0 : Nat) (0 : Nat), AV.ptr (1 : Nat) (0 : Nat)] ∧ eqH [Blk.box [AV.fn (21 : Nat) [] []], Blk.box [AV.str (Fx.name x), AV.int IntKind.i64 (Fx.date x), AV.str (Fx.value x)]] [Blk.box [AV.fn (21 : Nat) [] []], Blk.box [AV.str (Fx.name (Prod.snd x_1)), AV.int IntKind.i64 (Fx.date (Prod.snd x_1)), AV.str (Fx.value (Prod.snd x_1))]] ∧ (2 : Nat) = (2 : Nat) ∧ True) fun (n : Fx × Fx) => Tree.all (fun (r : Bool) => r = decide (cmpF (Prod.fst n) (Prod.snd n) = (0 : Int))) fun (n_1 : Bool) => Tree.ite n_1 (Tree.leaf (Leaf2.ret [AV.int IntKind.i64 (↑i : Int)] [Blk.box [AV.fn (21 : Nat) [] []], Blk.box [AV.str (Fx.name (Prod.snd n)), AV.int IntKind.i64 (Fx.date (Prod.snd n)), AV.str (Fx.value (Prod.snd n))]])) (Tree.side (inR IntKind.i64 ((↑i : Int) + (1 : Int))) (Tree.leaf (Leaf2.back (0 : Nat) [((0 : Nat), AV.sl (List.length l) (3 : Nat) (fxG l)), ((1 : Nat), AV.fn (54 : Nat) [] [AV.ptr (0 : Nat) (0 : Nat), AV.ptr (1 : Nat) (0 : Nat)]), ((7 : Nat), AV.int IntKind.i64 (↑(List.length l) : Int)), ((8 : Nat), AV.int IntKind.i64 ((↑i : Int) + (1 : Int)))] [Blk.box [AV.fn (21 : Nat) [] []], Blk.box [AV.str (Fx.name (Prod.snd n)), AV.int IntKind.i64 (Fx.date (Prod.snd n)), AV.str (Fx.value (Prod.snd n))]]))))) (Tree.leaf (Leaf2.ret [AV.int IntKind.i64 (-1 : Int)] [Blk.box [AV.fn (21 : Nat) [] []], Blk.box [AV.str (Fx.name x), AV.int IntKind.i64 (Fx.date x), AV.str (Fx.value x)]]))) (by kernel_rfl) ?_
    simp only [Tree.holds, Leafs2, inR, lo, hi, Int.toNat_natCast]
    refine ⟨fun hlt => ?_, fun hge => ?_⟩
    · have hlt : i < l.length := by have := of_decide_eq_true hlt; omega
      refine ⟨by omega, fun _ => ⟨(l.getD i Fx.nil, x), ⟨by simp, by simp, trivial, trivial⟩, ⟨_, rfl⟩, ?_⟩⟩
      rintro _ rfl
      refine ⟨fun h => ?_, fun h => ⟨by omega, fun _ => ?_⟩⟩
      · exact fin _ _ (idxB_at hlt h hib).symm rfl
      · rw [if_pos trivial]
        refine ⟨⟨i + 1, hlt, fun j hj => ?_⟩, by show l.length - (i + 1) < l.length - i; omega, by simp [SIdF, fxS, eqG_refl], by simp [HIdF], by kernel_rfl, Nat.le_refl _⟩
        rcases Nat.lt_or_ge j i with h1 | h1
        · exact hib j h1
        · have : j = i := by omega
          rw [this]; exact h
    · have hge : i = l.length := by have := of_decide_eq_false hge; omega
      subst hge
      exact fin _ _ (idxB_none (p := fun y => decide (cmpF y x = 0)) hib).symm rfl
theorem ixkC_ok : CtrOK Try.prog 55 ixkCC := by
  refine fn_ctrT (fn := Try.f55) (c := Try.f55.body.getD .skip) rfl rfl rfl (fun h => by cases h) fun p hl O w0 σ0 Q hl0 hq => ?_
  obtain ⟨l, x⟩ := p
  replace hq := hq _ rfl
  simp only at hq hl
  refine SafeK.run (k := K55) hmix GI2_ok [0, 1, 7, 8] 400 (T := Tree.leaf (Leaf2.loop (Prod.fst (lps K55 (0 : Nat))) (Prod.snd (lps K55 (0 : Nat))) [((0 : Nat), AV.sl (List.length l) (4 : Nat) (chG l)), ((1 : Nat), AV.fn (56 : Nat) [] [AV.ptr (0 : Nat) (0 : Nat), AV.ptr (1 : Nat) (0 : Nat)]), ((7 : Nat), AV.int IntKind.i64 (↑(List.length l) : Int)), ((8 : Nat), AV.int IntKind.i64 (0 : Int))] [Blk.box [AV.fn (28 : Nat) [] []], Blk.box [AV.str (Ch.party x), AV.str (Ch.name x), AV.int IntKind.i64 (Ch.date x), AV.bool (Ch.first x)]])) (by kernel_rfl) ?_
  simp only [Tree.holds, Leafs2]
  have fin : ∀ (i : Int) (h : Heap), i = idxB (fun y => decide (cmpC y x = 0)) l → h = HIdC x → RetR ixkCC 2 Q [.int .i64 i] h := by
    intro i h hi2 hh
    subst hh
    rw [← hi2] at hq
    exact RetR.keep [0, 1] rfl rfl (by show ∀ j, j < 2 → _; decide) rfl hq (by simp [resV, exp2, exp1, exp0, ren0, eqA2]) (by simp [expH, expB, exp1, exp0, ren0, HIdC]) rfl
  refine SafeK.loop (ι := {i : Nat // i ≤ l.length ∧ ∀ j, j < i → decide (cmpC (l.getD j Ch.nil) x = 0) = false}) (fun i => SIdC l i.1) (fun _ => HIdC x) (fun i => l.length - i.1) ⟨0, Nat.zero_le _, fun j hj => by omega⟩ 0 ?_ ?_ (by kernel_rfl)
  · exact ⟨by simp [SIdC, chS, eqG_refl], by simp [HIdC], by kernel_rfl, Nat.le_refl _⟩
  · rintro ⟨i, hil, hib⟩
    refine SafeK.run (k := inside K55 0) hmix GI2_ok [0, 1, 7, 8] 400 (T := Tree.ite (decide ((↑i : Int) < (↑(List.length l) : Int))) (Tree.side ((0 : Int) ≤ (↑i : Int) ∧ (↑i : Int) < (↑(List.length l) : Int)) (Tree.ex (fun (x_1 : Ch × Ch) => eqL [AV.agg [AV.str (Ch.party (List.getD l (Int.toNat (↑i : Int)) Ch.nil)), AV.str (Ch.name (List.getD l (Int.toNat (↑i : Int)) Ch.nil)), AV.int IntKind.i64 (Ch.date (List.getD l (Int.toNat (↑i : Int)) Ch.nil)), AV.bool (Ch.first (List.getD l (Int.toNat (↑i : Int)) Ch.nil))], AV.ptr (0 : Nat) (0 : Nat), AV.ptr (1 : Nat) (0 : Nat)] [AV.agg [AV.str (Ch.party (Prod.fst x_1)), AV.str (Ch.name (Prod.fst x_1)), AV.int IntKind.i64 (Ch.date (Prod.fst x_1)), AV.bool (Ch.first (Prod.fst x_1))], AV.ptr (0 : Nat) (0 : Nat), AV.ptr (1 : Nat) (0 : Nat)] ∧ eqH [Blk.box [AV.fn (28 : Nat) [] []], Blk.box [AV.str (Ch.party x), AV.str (Ch.name x), AV.int IntKind.i64 (Ch.date x), AV.bool (Ch.first x)]] [Blk.box [AV.fn (28 : Nat) [] []], Blk.box [AV.str (Ch.party (Prod.snd x_1)), AV.str (Ch.name (Prod.snd x_1)), AV.int IntKind.i64 (Ch.date (Prod.snd x_1)), AV.bool (Ch.first (Prod.snd x_1))]] ∧ (2 : Nat) = (2 : Nat) ∧ True) fun (n : Ch × Ch) => Tree.all (fun (r : Bool) => r = decide (cmpC (Prod.fst n) (Prod.snd n) = (0 : Int))) fun (n_1 : Bool) => Tree.ite n_1 (Tree.leaf (Leaf2.ret [AV.int IntKind.i64 (↑i : Int)] [Blk.box [AV.fn (28 : Nat) [] []], Blk.box [AV.str (Ch.party (Prod.snd n)), AV.str (Ch.name (Prod.snd n)), AV.int IntKind.i64 (Ch.date (Prod.snd n)), AV.bool (Ch.first (Prod.snd n))]])) (Tree.side (inR IntKind.i64 ((↑i : Int) + (1 : Int))) (Tree.leaf (Leaf2.back (0 : Nat) [((0 : Nat), AV.sl (List.length l) (4 : Nat) (chG l)), ((1 : Nat), AV.fn (56 : Nat) [] [AV.ptr (0 : Nat) (0 : Nat), AV.ptr (1 : Nat) (0 : Nat)]), ((7 : Nat), AV.int IntKind.i64 (↑(List.length l) : Int)), ((8 : Nat), AV.int IntKind.i64 ((↑i : Int) + (1 : Int)))] [Blk.box [AV.fn (28 : Nat) [] []], Blk.box [AV.str (Ch.party (Prod.snd n)), AV.str (Ch.name (Prod.snd n)), AV.int IntKind.i64 (Ch.date (Prod.snd n)), AV.bool (Ch.first (Prod.snd n))]]))))) (Tree.leaf (Leaf2.ret [AV.int IntKind.i64 (-1 : Int)] [Blk.box [AV.fn (28 : Nat) [] []], Blk.box [AV.str (Ch.party x), AV.str (Ch.name x), AV.int IntKind.i64 (Ch.date x), AV.bool (Ch.first x)]]))) (by kernel_rfl) ?_
    simp only [Tree.holds, Leafs2, inR, lo, hi, Int.toNat_natCast]
    refine ⟨fun hlt => ?_, fun hge => ?_⟩
    · have hlt : i < l.length := by have := of_decide_eq_true hlt; omega
      refine ⟨by omega, fun _ => ⟨(l.getD i Ch.nil, x), ⟨by simp, by simp, trivial, trivial⟩, ⟨_, rfl⟩, ?_⟩⟩
      rintro _ rfl
      refine ⟨fun h => ?_, fun h => ⟨by omega, fun _ => ?_⟩⟩
      · exact fin _ _ (idxB_at hlt h hib).symm rfl
      · rw [if_pos trivial]
        refine ⟨⟨i + 1, hlt, fun j hj => ?_⟩, by show l.length - (i + 1) < l.length - i; omega, by simp [SIdC, chS, eqG_refl], by simp [HIdC], by kernel_rfl, Nat.le_refl _⟩
        rcases Nat.lt_or_ge j i with h1 | h1
        · exact hib j h1
        · have : j = i := by omega
          rw [this]; exact h
    · have hge : i = l.length := by have := of_decide_eq_false hge; omega
      subst hge
      exact fin _ _ (idxB_none (p := fun y => decide (cmpC y x = 0)) hib).symm rfl
def indexFC : Ctr := ctrP true (fun p : List Fx × Fx => [fxS p.1, p.2.av, .fn 21 [] []]) (fun p => p.1.length < 2 ^ 40) (fun p r => r = idxB (fun x => decide (cmpF x p.2 = 0)) p.1) (fun _ (r : Int) => (.int .i64 r, []))
def indexCC : Ctr := ctrP true (fun p : List Ch × Ch => [chS p.1, p.2.av, .fn 28 [] []]) (fun p => p.1.length < 2 ^ 40) (fun p r => r = idxB (fun x => decide (cmpC x p.2 = 0)) p.1) (fun _ (r : Int) => (.int .i64 r, []))
def GI3 : Nat → Option Ctr := fun f => if f = 53 then some ixkFC else if f = 55 then some ixkCC else none
theorem GI3_ok : ∀ g c, GI3 g = some c → CtrOK Try.prog g c := by
  intro g c h
  simp only [GI3] at h
  split at h
  · rename_i hg; subst hg; cases h; exact ixkF_ok
  split at h
  · rename_i hg; subst hg; cases h; exact ixkC_ok
  cases h

theorem indexF_ok : CtrOK Try.prog 31 indexFC := by
  refine fn_ctrP (fn := Try.f31) (c := Try.f31.body.getD .skip) rfl rfl rfl fun p hp O w0 Q hq => ?_
  obtain ⟨l, ⟨a, d, v⟩⟩ := p
  replace hq := hq _ rfl
  simp only at hq hp
  refine SafeK.run (k := K31) hmix GI3_ok [] 400 (T := Tree.ex (fun (x : List Fx × Fx) => eqL [AV.sl (List.length l) (3 : Nat) (fxG l), AV.fn (54 : Nat) [] [AV.ptr (0 : Nat) (0 : Nat), AV.ptr (1 : Nat) (0 : Nat)]] [AV.sl (List.length (Prod.fst x)) (3 : Nat) (fxG (Prod.fst x)), AV.fn (54 : Nat) [] [AV.ptr (0 : Nat) (0 : Nat), AV.ptr (1 : Nat) (0 : Nat)]] ∧ eqH [Blk.box [AV.fn (21 : Nat) [] []], Blk.box [AV.str a, AV.int IntKind.i64 d, AV.str v]] [Blk.box [AV.fn (21 : Nat) [] []], Blk.box [AV.str (Fx.name (Prod.snd x)), AV.int IntKind.i64 (Fx.date (Prod.snd x)), AV.str (Fx.value (Prod.snd x))]] ∧ (2 : Nat) = (2 : Nat) ∧ List.length (Prod.fst x) < (1099511627776 : Nat)) fun (n : List Fx × Fx) => Tree.all (fun (r : Int) => r = idxB (fun (x : Fx) => decide (cmpF x (Prod.snd n) = (0 : Int))) (Prod.fst n)) fun (n_1 : Int) => Tree.leaf (Leaf2.ret [AV.int IntKind.i64 n_1] [Blk.box [AV.str (Fx.name (Prod.snd n)), AV.int IntKind.i64 (Fx.date (Prod.snd n)), AV.str (Fx.value (Prod.snd n))], Blk.box [AV.fn (21 : Nat) [] []]])) (by kernel_rfl) ?_
  simp only [Tree.holds, Leafs2]
  refine ⟨(l, ⟨a, d, v⟩), ⟨by simp [eqG_refl], by simp, trivial, hp⟩, ⟨_, rfl⟩, ?_⟩
  rintro _ rfl
  exact RetR.scal hq rfl (by simp [resV])
theorem indexC_ok : CtrOK Try.prog 38 indexCC := by
  refine fn_ctrP (fn := Try.f38) (c := Try.f38.body.getD .skip) rfl rfl rfl fun p hp O w0 Q hq => ?_
  obtain ⟨l, ⟨a, v, d, b⟩⟩ := p
  replace hq := hq _ rfl
  simp only at hq hp
  refine SafeK.run (k := K38) hmix GI3_ok [] 400 (T := Tree.ex (fun (x : List Ch × Ch) => eqL [AV.sl (List.length l) (4 : Nat) (chG l), AV.fn (56 : Nat) [] [AV.ptr (0 : Nat) (0 : Nat), AV.ptr (1 : Nat) (0 : Nat)]] [AV.sl (List.length (Prod.fst x)) (4 : Nat) (chG (Prod.fst x)), AV.fn (56 : Nat) [] [AV.ptr (0 : Nat) (0 : Nat), AV.ptr (1 : Nat) (0 : Nat)]] ∧ eqH [Blk.box [AV.fn (28 : Nat) [] []], Blk.box [AV.str a, AV.str v, AV.int IntKind.i64 d, AV.bool b]] [Blk.box [AV.fn (28 : Nat) [] []], Blk.box [AV.str (Ch.party (Prod.snd x)), AV.str (Ch.name (Prod.snd x)), AV.int IntKind.i64 (Ch.date (Prod.snd x)), AV.bool (Ch.first (Prod.snd x))]] ∧ (2 : Nat) = (2 : Nat) ∧ List.length (Prod.fst x) < (1099511627776 : Nat)) fun (n : List Ch × Ch) => Tree.all (fun (r : Int) => r = idxB (fun (x : Ch) => decide (cmpC x (Prod.snd n) = (0 : Int))) (Prod.fst n)) fun (n_1 : Int) => Tree.leaf (Leaf2.ret [AV.int IntKind.i64 n_1] [Blk.box [AV.str (Ch.party (Prod.snd n)), AV.str (Ch.name (Prod.snd n)), AV.int IntKind.i64 (Ch.date (Prod.snd n)), AV.bool (Ch.first (Prod.snd n))], Blk.box [AV.fn (28 : Nat) [] []]])) (by kernel_rfl) ?_
  simp only [Tree.holds, Leafs2]
  refine ⟨(l, ⟨a, v, d, b⟩), ⟨by simp [eqG_refl], by simp, trivial, hp⟩, ⟨_, rfl⟩, ?_⟩
  rintro _ rfl
  exact RetR.scal hq rfl (by simp [resV])
def GI4 : Nat → Option Ctr := fun f => if f = 31 then some indexFC else if f = 38 then some indexCC else none
theorem GI4_ok : ∀ g c, GI4 g = some c → CtrOK Try.prog g c := by
  intro g c h
  simp only [GI4] at h
  split at h
  · rename_i hg; subst hg; cases h; exact indexF_ok
  split at h
  · rename_i hg; subst hg; cases h; exact indexC_ok
  cases h

theorem find_ok : CtrOK Try.prog 10 findC := by
  refine fn_ctrP (fn := Try.f10) (c := Try.f10.body.getD .skip) rfl rfl rfl fun p hp O w0 Q hq => ?_
  obtain ⟨⟨f, c⟩, ⟨a, d⟩⟩ := p
  replace hq := hq _ rfl
  simp only at hq hp
  refine SafeK.run (k := K10) hmix GI4_ok [] 400 (T := Tree.ex (fun (x : List Fx × Fx) => eqL [AV.sl (List.length f) (3 : Nat) (fxG f), AV.agg [AV.str a, AV.int IntKind.i64 d, AV.str (Array.toList #[])], AV.fn (21 : Nat) [] []] [AV.sl (List.length (Prod.fst x)) (3 : Nat) (fxG (Prod.fst x)), AV.agg [AV.str (Fx.name (Prod.snd x)), AV.int IntKind.i64 (Fx.date (Prod.snd x)), AV.str (Fx.value (Prod.snd x))], AV.fn (21 : Nat) [] []] ∧ List.length (Prod.fst x) < (1099511627776 : Nat)) fun (n : List Fx × Fx) => Tree.all (fun (r : Int) => r = idxB (fun (x : Fx) => decide (cmpF x (Prod.snd n) = (0 : Int))) (Prod.fst n)) fun (n : Int) => Tree.ite (decide (n < (0 : Int))) (Tree.leaf (Leaf2.ret [AV.str (Array.toList #[]), AV.bool false] [Blk.box [AV.sl (List.length f) (3 : Nat) (fxG f), AV.sl (List.length c) (4 : Nat) (chG c)]])) (Tree.side ((0 : Int) ≤ n ∧ n < (↑(List.length f) : Int)) (Tree.leaf (Leaf2.ret [AV.str (Fx.value (List.getD f (Int.toNat n) Fx.nil)), AV.bool true] [Blk.box [AV.sl (List.length f) (3 : Nat) (fxG f), AV.sl (List.length c) (4 : Nat) (chG c)]])))) (by kernel_rfl) ?_
  simp only [Tree.holds, Leafs2]
  refine ⟨(f, ⟨a, d, []⟩), ⟨by simp [eqG_refl], hp⟩, ⟨_, rfl⟩, ?_⟩
  rintro _ rfl
  obtain ⟨hlt, hr⟩ := find_idx f a d
  simp only at hq ⊢
  refine ⟨fun h => ?_, fun h => ?_⟩
  · rw [hr, if_neg (by have := of_decide_eq_true h; omega)] at hq
    exact RetR.scal hq rfl (by simp [resV])
  · have h := of_decide_eq_false h
    refine ⟨⟨by omega, hlt⟩, fun _ => ?_⟩
    rw [hr, if_pos (by omega)] at hq
    exact RetR.scal hq rfl (by simp [resV])
theorem chosen_ok : CtrOK Try.prog 15 chosenC := by
  refine fn_ctrP (fn := Try.f15) (c := Try.f15.body.getD .skip) rfl rfl rfl fun p hp O w0 Q hq => ?_
  obtain ⟨⟨f, c⟩, ⟨a, v, d⟩⟩ := p
  replace hq := hq _ rfl
  simp only at hq hp
  refine SafeK.run (k := K15) hmix GI4_ok [] 400 (T := Tree.ex (fun (x : List Ch × Ch) => eqL [AV.sl (List.length c) (4 : Nat) (chG c), AV.agg [AV.str a, AV.str v, AV.int IntKind.i64 d, AV.bool false], AV.fn (28 : Nat) [] []] [AV.sl (List.length (Prod.fst x)) (4 : Nat) (chG (Prod.fst x)), AV.agg [AV.str (Ch.party (Prod.snd x)), AV.str (Ch.name (Prod.snd x)), AV.int IntKind.i64 (Ch.date (Prod.snd x)), AV.bool (Ch.first (Prod.snd x))], AV.fn (28 : Nat) [] []] ∧ List.length (Prod.fst x) < (1099511627776 : Nat)) fun (n : List Ch × Ch) => Tree.all (fun (r : Int) => r = idxB (fun (x : Ch) => decide (cmpC x (Prod.snd n) = (0 : Int))) (Prod.fst n)) fun (n : Int) => Tree.side (decide ((0 : Int) ≤ n) = true → (0 : Int) ≤ n ∧ n < (↑(List.length c) : Int)) (Tree.leaf (Leaf2.ret [AV.bool (bif decide ((0 : Int) ≤ n) then Ch.first (List.getD c (Int.toNat n) Ch.nil) else false)] [Blk.box [AV.sl (List.length f) (3 : Nat) (fxG f), AV.sl (List.length c) (4 : Nat) (chG c)]]))) (by kernel_rfl) ?_
  simp only [Tree.holds, Leafs2]
  refine ⟨(c, ⟨a, v, d, false⟩), ⟨by simp [eqG_refl], hp⟩, ⟨_, rfl⟩, ?_⟩
  rintro _ rfl
  obtain ⟨hlt, hr⟩ := chosen_idx c a v d
  simp only at hq ⊢
  refine ⟨fun h => ⟨of_decide_eq_true h, hlt⟩, fun _ => ?_⟩
  refine RetR.scal hq rfl ?_
  rw [hr]
  simp only [resV]
  by_cases h : 0 ≤ idxB (fun x => decide (cmpC x ⟨a, v, d, false⟩ = 0)) c
  · rw [decide_eq_true h, if_pos h]; rfl
  · rw [decide_eq_false h, if_neg h]; rfl
end Go.Proofs.Try
end

/- The library's insertion, walked. -/
section
set_option linter.unusedVariables false
set_option linter.unusedSimpArgs false
namespace Go.Proofs
open Go.RowKit Go.Lib
set_option maxHeartbeats 4000000 in
set_option maxRecDepth 100000 in
/-- There is room: in place. -/
theorem Try.insF_shift (b off n c i vb voff vc : Nat) (cur vcur : Array Value) (el vel : TypeId) (cs vs : List Value) (w : World) (hi : i < n) (hroom : n + 1 ≤ c) (hn63 : n + 1 ≤ 140737488355328) (hvb : vb ≠ b)
    (hB : w.heap[b]? = some (.cells cur el (0, 0))) (hV : w.heap[vb]? = some (.cells vcur vel (0, 0))) (hfit : off + c * 3 ≤ cur.size)
    (hcl : cs.length = n * 3) (hvl : vs.length = 3)
    (hcs : ∀ j v, cs[j]? = some v → w.cell? ⟨b, off + j, none⟩ = some v)
    (hvs : ∀ j v, vs[j]? = some v → w.cell? ⟨vb, voff + j, none⟩ = some v) (h1c : ∀ v ∈ cs, v.oneCell' = true) (h1v : ∀ v ∈ vs, v.oneCell' = true)
    (X1 X2 : List Value) (hX1 : X1 = cur.toList.take (off + (i + 1) * 3) ++ cs.drop (i * 3) ++ cur.toList.drop (off + (i + 1) * 3 + (cs.drop (i * 3)).length)) (hX2 : X2 = X1.take (off + i * 3) ++ vs ++ X1.drop (off + i * 3 + vs.length)) :
    Calls Try.prog 44 #[.slice (some ⟨b, off, none⟩) n c, .int .i64 i, .slice (some ⟨vb, voff, none⟩) 1 vc] w fun e w' =>
      e = .returned (.slice (some ⟨b, off, none⟩) (n + 1) c) ∧ w'.heap = ((w.setRow b X1.toArray).setRow b X2.toArray).heap ∧ w'.os = w.os ∧ w'.tape = w.tape ∧ w'.output = w.output := by
  have hz2 : ¬ ((i : Int) = (n : Int)) := by omega
  have hz3 : ¬ ((c : Int) < (n : Int) + 1) := by omega
  have hov : ∀ lb cb, (callFunc 61 #[.slice (some ⟨vb, voff, none⟩) 1 vc, .slice (some ⟨b, off + (i + 1) * 3, none⟩) lb cb]).run Try.prog w = .ok (.value (.bool false)) w := fun lb cb => by
    rw [run_callFunc_extern Try.func61 (by kernel_rfl) (by kernel_rfl) (by kernel_rfl) (e := Extern.SlicesOverlaps.overlaps #[22, 22] #[4]) (by kernel_rfl)]
    rw [Lib.run_overlaps_apart w 22 4 28 (by kernel_rfl) 3 (fun w => by kernel_rfl) ⟨vb, voff, none⟩ ⟨b, off + (i + 1) * 3, none⟩ 1 vc lb cb hvb vel el vcur.size cur.size (by simp [World.shape?, hV]) (by simp [World.shape?, hB]) (by omega) (by simp [World.frozen?, hV]) (by simp [World.frozen?, hV])]
    rfl
  have hdl : (cs.drop (i * 3)).length = (n - i) * 3 := by rw [List.length_drop, hcl, Nat.sub_mul]
  have hci : (i + 1) * 3 + (n - i) * 3 = (n + 1) * 3 := by rw [← Nat.add_mul]; congr 1; omega
  have hcn : (n + 1) * 3 ≤ c * 3 := Nat.mul_le_mul_right _ hroom
  have hin3 : i * 3 ≤ n * 3 := Nat.mul_le_mul_right _ (by omega)
  have hcurl : cur.toList.length = cur.size := by simp
  have hX1l : X1.length = cur.size := by
    rw [hX1]
    simp only [List.length_append, List.length_take, List.length_drop, hcurl, hdl] at *
    omega
  have hcp1 : ∀ ty dc sc, (Builtin.copy_ #[22, 22] ty #[.slice (some ⟨b, off + (i + 1) * 3, none⟩) (n - i) dc, .slice (some ⟨b, off + i * 3, none⟩) (n + 1 - i) sc]).run Try.prog w.drew = .ok (goInt ((n - i : Nat) : Int)) (w.drew.setRow b X1.toArray) := fun ty dc sc => by
    rw [hX1]
    exact run_copy_rowN w.drew _ _ ty 28 3 (n - i) b (off + (i + 1) * 3) (n - i) dc ⟨b, off + i * 3, none⟩ (n + 1 - i) sc cur el (cs.drop (i * 3)) (by kernel_rfl) (by kernel_rfl) hB
      (by simp only [Nat.min_def]; split <;> omega) hdl (fun j v hj => by rw [Addr.add_lit, Nat.add_assoc]; exact hcs (i * 3 + j) v (by rwa [List.getElem?_drop] at hj)) (by rw [hdl]; omega) (fun v hv => h1c v (List.mem_of_mem_drop hv))
  obtain ⟨W1, hW1⟩ : ∃ W1, W1 = w.drew.setRow b X1.toArray := ⟨_, rfl⟩
  have hB1 : W1.heap[b]? = some (.cells X1.toArray el (0, 0)) := by rw [hW1]; exact setRow_heap w.drew b cur _ el _ hB
  have hcp2 : ∀ (W : World), W.heap = W1.heap → ∀ ty dc, (Builtin.copy_ #[22, 22] ty #[.slice (some ⟨b, off + i * 3, none⟩) (n + 1 - i) dc, .slice (some ⟨vb, voff, none⟩) 1 vc]).run Try.prog W = .ok (goInt 1) (W.setRow b X2.toArray) := fun W hW ty dc => by
    rw [hX2]
    have := run_copy_rowN W 22 22 ty 28 3 1 b (off + i * 3) (n + 1 - i) dc ⟨vb, voff, none⟩ 1 vc X1.toArray el vs (P := Try.prog) (by kernel_rfl) (by kernel_rfl) (by rw [hW]; exact hB1)
      (by simp only [Nat.min_def]; split <;> omega) hvl (fun j v hj => by
        rw [Addr.add_lit]
        have : W.cell? ⟨vb, voff + j, none⟩ = w.cell? ⟨vb, voff + j, none⟩ := by
          have h1 : W.heap[vb]? = w.heap[vb]? := by rw [hW, hW1, setRow_other w.drew b vb _ hvb]; rfl
          simp only [World.cell?, h1]
        rw [this]; exact hvs j v hj) (by simp only [List.size_toArray, hX1l, hvl]; omega) h1v
    simpa using this
  rw [← hW1] at hcp1
  have mixed : Try.prog.follows .mixedOrders = true := by kernel_rfl
  have hw1 : IntKind.i64.wrap ((i : Int) + 1) = (i : Int) + 1 := by rw [IntKind.wrap_i64]; omega
  have hb1 : (0 : Int) ≤ (i : Int) + 1 := by omega
  have hin : i ≤ n := by omega
  have htn : ((i : Int) + 1).toNat = i + 1 := by omega
  have hb2 : ¬ (c = i + 1) := by omega
  have hb3 : (i : Int) ≤ (n : Int) + 1 := by omega
  have hb4 : ¬ (c = i) := by omega
  clear hci hcn hin3 hX1l hcurl hdl hcl hvl hcs hvs h1c h1v hX1 hX2 hB hV hB1 hfit
  go_enter Try.func44, Try.ntmps44
  go_wp2_with (simp only [hov])
  go_region_law_o (refine step_copy_runI rfl _ _ 22 22 rfl _ _ (by simp [Act.eval, Act.put]) (by simp [Act.eval, Act.put]) (hcp1 _ _ _) ?_)
  go_wp2_with (at_builtin; refine wpList_copy_runI _ rfl _ _ 22 22 rfl _ _ rfl rfl (hcp2 _ rfl _ _) ?_)
  go_ret
  subst hW1
  exact ⟨rfl, rfl, rfl, rfl, rfl⟩

set_option maxHeartbeats 4000000 in
set_option maxRecDepth 100000 in
/-- There is no room: a new row. -/
theorem Try.insF_grow (b off n c i vb voff vc : Nat) (cur vcur : Array Value) (el vel : TypeId) (cs vs : List Value) (w : World) (hi : i < n) (hnc : n ≤ c) (hroom : c < n + 1) (hbig : (n + 1) * 40 ≤ 140737488355328)
    (hB : w.heap[b]? = some (.cells cur el (0, 0))) (hV : w.heap[vb]? = some (.cells vcur vel (0, 0)))
    (hcl : cs.length = n * 3) (hvl : vs.length = 3)
    (hcs : ∀ j v, cs[j]? = some v → w.cell? ⟨b, off + j, none⟩ = some v)
    (hvs : ∀ j v, vs[j]? = some v → w.cell? ⟨vb, voff + j, none⟩ = some v) (h1c : ∀ v ∈ cs, v.oneCell' = true) (h1v : ∀ v ∈ vs, v.oneCell' = true)
    (zs : List Value) (hz : Builtin.zeroCells (Value.agg #[.string ⟨#[]⟩, .int .i64 0, .string ⟨#[]⟩]).cells (n + 1 - i) = zs.toArray) (G : Nat) (hG : G = grownCap w (n + 1) c 28) (rest : List Value) (hrest : Builtin.zeroCells (Value.agg #[.string ⟨#[]⟩, .int .i64 0, .string ⟨#[]⟩]).cells (G - (n + 1)) = rest.toArray)
    (ROW X1 X2 : List Value) (hROW : ROW = cs.take (i * 3) ++ zs ++ rest) (hX1 : X1 = ROW.take (i * 3) ++ vs ++ ROW.drop (i * 3 + vs.length)) (hX2 : X2 = X1.take ((i + 1) * 3) ++ cs.drop (i * 3) ++ X1.drop ((i + 1) * 3 + (cs.drop (i * 3)).length)) :
    Calls Try.prog 44 #[.slice (some ⟨b, off, none⟩) n c, .int .i64 i, .slice (some ⟨vb, voff, none⟩) 1 vc] w fun e w' =>
      e = .returned (.slice (some ⟨w.heap.size, 0, none⟩) (n + 1) G) ∧ w'.heap = (((w.alloc (.cells ROW.toArray 28)).setRow w.heap.size X1.toArray).setRow w.heap.size X2.toArray).heap ∧ w'.os = w.os ∧ w'.tape = w.tape ∧ w'.output = w.output := by
  have hz2 : ¬ ((i : Int) = (n : Int)) := by omega
  have hz3 : (c : Int) < (n : Int) + 1 := by omega
  have hbw : b < w.heap.size := (Array.getElem?_eq_some_iff.1 hB).1
  have hvw : vb < w.heap.size := (Array.getElem?_eq_some_iff.1 hV).1
  have hkk : (n : Int) + 1 - (i : Int) = ((n + 1 - i : Nat) : Int) := by omega
  have hik : i + (n + 1 - i) = n + 1 := by omega
  have hin3 : i * 3 ≤ n * 3 := Nat.mul_le_mul_right _ (by omega)
  have hci : (i + 1) * 3 + (n - i) * 3 = (n + 1) * 3 := by rw [← Nat.add_mul]; congr 1; omega
  have hdl : (cs.drop (i * 3)).length = (n - i) * 3 := by rw [List.length_drop, hcl, Nat.sub_mul]
  have hzl : zs.length = (n + 1 - i) * 3 := by
    have := congrArg Array.size hz
    simpa [Builtin.zeroCells, Value.cells] using this.symm
  have hold : (Builtin.firstCells 3 i (.slice (some ⟨b, off, none⟩) i c)).run Try.prog w.drew = .ok (cs.take (i * 3)).toArray w.drew := by
    exact run_firstCells_some w.drew 3 i ⟨b, off, none⟩ i c (cs.take (i * 3)) (by rw [List.length_take]; omega) (fun j v hj => by
      rw [Addr.add_lit]
      rw [List.getElem?_take] at hj
      split at hj
      · exact hcs j v hj
      · cases hj)
  obtain ⟨i0, hi0, hz0, hzs, hzb⟩ := info_parts (P := Try.prog) (e := 28) (z := Value.agg #[.string ⟨#[]⟩, .int .i64 0, .string ⟨#[]⟩]) (size := 3) (bytes := 40) (by kernel_rfl)
  have hrz : ∀ ty, (Builtin.append_ #[22, 3] ty #[.slice (some ⟨b, off, none⟩) i c, .int .i64 ((n : Int) + 1 - (i : Int))]).run Try.prog w =
      .ok (.slice (some ⟨w.heap.size, 0, none⟩) (n + 1) G) (w.drew.alloc (.cells ROW.toArray 28)) := fun ty => by
    have h := Lib.run_append_grow_zeros w 22 3 ty 28 i0 _ .i64 .i64 (P := Try.prog) (by kernel_rfl) (by kernel_rfl) hi0 hz0 (some ⟨b, off, none⟩) i c (cs.take (i * 3)) (by rw [hzs]; exact hold) (n + 1 - i) (by omega) (by omega) (by omega) (by omega) (by rw [hzb]; omega) (by rw [hzb, hik]; exact growslice_fits hroom hbig)
    rw [hik, ← hG, hz, hrest] at h
    rw [hkk, h, hROW]
    simp
  have hROWl : (n + 1) * 3 ≤ ROW.length := by
    rw [hROW]
    have : (i + (n + 1 - i)) * 3 = (n + 1) * 3 := by rw [hik]
    simp only [List.length_append, List.length_take, hcl, hzl]
    omega
  have hX1l : X1.length = ROW.length := by
    rw [hX1]
    simp only [List.length_append, List.length_take, List.length_drop, hvl]
    omega
  obtain ⟨W1, hW1⟩ : ∃ W1, W1 = w.drew.alloc (.cells ROW.toArray 28) := ⟨_, rfl⟩
  have hN1 : W1.heap[w.heap.size]? = some (.cells ROW.toArray 28 (0, 0)) := by rw [hW1]; exact Array.getElem?_push_size
  have hO1 : ∀ k, k < w.heap.size → W1.heap[k]? = w.heap[k]? := fun k hk => by
    rw [hW1]
    show (w.drew.heap.push _)[k]? = _
    rw [Array.getElem?_push, if_neg (by show k ≠ w.heap.size; omega)]
    rfl
  have hcpA : ∀ (W : World), W.heap = W1.heap → ∀ ty dc, (Builtin.copy_ #[22, 22] ty #[.slice (some ⟨w.heap.size, i * 3, none⟩) (n + 1 - i) dc, .slice (some ⟨vb, voff, none⟩) 1 vc]).run Try.prog W = .ok (goInt 1) (W.setRow w.heap.size X1.toArray) := fun W hW ty dc => by
    rw [hX1]
    have := run_copy_rowN W 22 22 ty 28 3 1 w.heap.size (i * 3) (n + 1 - i) dc ⟨vb, voff, none⟩ 1 vc ROW.toArray _ vs (P := Try.prog) (by kernel_rfl) (by kernel_rfl) (by rw [hW]; exact hN1)
      (by simp only [Nat.min_def]; split <;> omega) hvl (fun j v hj => by
        rw [Addr.add_lit]
        have : W.cell? ⟨vb, voff + j, none⟩ = w.cell? ⟨vb, voff + j, none⟩ := by
          have h1 : W.heap[vb]? = w.heap[vb]? := by rw [hW, hO1 vb hvw]
          simp only [World.cell?, h1]
        rw [this]; exact hvs j v hj) (by simp only [List.size_toArray, hvl]; omega) h1v
    simpa using this
  obtain ⟨W2, hW2⟩ : ∃ W2, W2 = W1.setRow w.heap.size X1.toArray := ⟨_, rfl⟩
  have hN2 : W2.heap[w.heap.size]? = some (.cells X1.toArray 28 (0, 0)) := by rw [hW2]; exact setRow_heap W1 w.heap.size _ _ _ _ hN1
  have hcpB : ∀ (W : World), W.heap = (W1.setRow w.heap.size X1.toArray).heap → ∀ ty dc sc, (Builtin.copy_ #[22, 22] ty #[.slice (some ⟨w.heap.size, (i + 1) * 3, none⟩) (n - i) dc, .slice (some ⟨b, off + i * 3, none⟩) (n - i) sc]).run Try.prog W = .ok (goInt ((n - i : Nat) : Int)) (W.setRow w.heap.size X2.toArray) := fun W hW ty dc sc => by
    rw [hX2]
    have := run_copy_rowN W 22 22 ty 28 3 (n - i) w.heap.size ((i + 1) * 3) (n - i) dc ⟨b, off + i * 3, none⟩ (n - i) sc X1.toArray _ (cs.drop (i * 3)) (P := Try.prog) (by kernel_rfl) (by kernel_rfl) (by rw [hW, ← hW2]; exact hN2)
      (Nat.min_self _).symm hdl (fun j v hj => by
        rw [Addr.add_lit, Nat.add_assoc]
        have : W.cell? ⟨b, off + (i * 3 + j), none⟩ = w.cell? ⟨b, off + (i * 3 + j), none⟩ := by
          have h1 : W.heap[b]? = w.heap[b]? := by rw [hW, setRow_other W1 w.heap.size b _ (by omega), hO1 b hbw]
          simp only [World.cell?, h1]
        rw [this]; exact hcs (i * 3 + j) v (by rwa [List.getElem?_drop] at hj)) (by simp only [List.size_toArray, hdl, hX1l]; omega) (fun v hv => h1c v (List.mem_of_mem_drop hv))
    simpa using this
  rw [← hW1] at hrz
  have A : Aside (W1 = w.drew.alloc (.cells ROW.toArray 28)) := hW1
  have mixed : Try.prog.follows .mixedOrders = true := by kernel_rfl
  have hGn : n + 1 ≤ G := by rw [hG]; exact grownCap_ge w _ _ _
  have hG63 : G ≤ 9223372036854775807 := by
    have := grownCap_le_maxLen w (n + 1) c 28 (by unfold maxLen; omega)
    rw [← hG] at this
    unfold maxLen at this
    omega
  have hGi : ¬ (G = i) := by omega
  have hGim : ¬ (G = i + 1) := by omega
  have hci : ¬ (c = i) := by omega
  have hw1 : IntKind.i64.wrap ((i : Int) + 1) = (i : Int) + 1 := by rw [IntKind.wrap_i64]; omega
  have hb1 : (0 : Int) ≤ (i : Int) + 1 := by omega
  have hin : i ≤ n := by omega
  have htn : ((i : Int) + 1).toNat = i + 1 := by omega
  have hb3 : (i : Int) ≤ (n : Int) := by omega
  have hwb : W1.drew.heap = W1.heap := rfl
  clear hkk hik hin3 hdl hzl hold hz0 hzs hzb hi0 hROWl hX1l hz hrest hROW hX1 hX2 hcs hvs h1c h1v hcl hvl hB hV hN1 hN2 hO1 hbig hwb hG hW1 hW2
  go_enter Try.func44, Try.ntmps44
  go_wp2_with (first
    | (at_builtin; refine Lib.wpList_append_run _ rfl _ _ _ _ rfl _ _ rfl rfl _ _ (hrz _) ?_)
    | (at_builtin; refine wpList_copy_runI _ rfl _ _ 22 22 rfl _ _ rfl rfl (hcpA _ rfl _ _) ?_))
  go_region_law_o (refine step_copy_runI rfl _ _ 22 22 rfl (.slice (some ⟨w.heap.size, (i + 1) * 3, none⟩) (n - i) (G - (i + 1))) (.slice (some ⟨b, off + i * 3, none⟩) (n - i) (c - i)) (by simp [Act.eval, Act.put]) (by simp [Act.eval, Act.put]) (hcpB (W1.setRow w.heap.size X1.toArray).drew rfl _ _ _) ?_)
  go_wp2
  go_ret
  have hW1 := A.out
  subst hW1
  exact ⟨rfl, rfl, rfl, rfl, rfl⟩
set_option maxHeartbeats 4000000 in
set_option maxRecDepth 100000 in
/-- There is room: in place. -/
theorem Try.insC_shift (b off n c i vb voff vc : Nat) (cur vcur : Array Value) (el vel : TypeId) (cs vs : List Value) (w : World) (hi : i < n) (hroom : n + 1 ≤ c) (hn63 : n + 1 ≤ 140737488355328) (hvb : vb ≠ b)
    (hB : w.heap[b]? = some (.cells cur el (0, 0))) (hV : w.heap[vb]? = some (.cells vcur vel (0, 0))) (hfit : off + c * 4 ≤ cur.size)
    (hcl : cs.length = n * 4) (hvl : vs.length = 4)
    (hcs : ∀ j v, cs[j]? = some v → w.cell? ⟨b, off + j, none⟩ = some v)
    (hvs : ∀ j v, vs[j]? = some v → w.cell? ⟨vb, voff + j, none⟩ = some v) (h1c : ∀ v ∈ cs, v.oneCell' = true) (h1v : ∀ v ∈ vs, v.oneCell' = true)
    (X1 X2 : List Value) (hX1 : X1 = cur.toList.take (off + (i + 1) * 4) ++ cs.drop (i * 4) ++ cur.toList.drop (off + (i + 1) * 4 + (cs.drop (i * 4)).length)) (hX2 : X2 = X1.take (off + i * 4) ++ vs ++ X1.drop (off + i * 4 + vs.length)) :
    Calls Try.prog 52 #[.slice (some ⟨b, off, none⟩) n c, .int .i64 i, .slice (some ⟨vb, voff, none⟩) 1 vc] w fun e w' =>
      e = .returned (.slice (some ⟨b, off, none⟩) (n + 1) c) ∧ w'.heap = ((w.setRow b X1.toArray).setRow b X2.toArray).heap ∧ w'.os = w.os ∧ w'.tape = w.tape ∧ w'.output = w.output := by
  have hz2 : ¬ ((i : Int) = (n : Int)) := by omega
  have hz3 : ¬ ((c : Int) < (n : Int) + 1) := by omega
  have hov : ∀ lb cb, (callFunc 69 #[.slice (some ⟨vb, voff, none⟩) 1 vc, .slice (some ⟨b, off + (i + 1) * 4, none⟩) lb cb]).run Try.prog w = .ok (.value (.bool false)) w := fun lb cb => by
    rw [run_callFunc_extern Try.func69 (by kernel_rfl) (by kernel_rfl) (by kernel_rfl) (e := Extern.SlicesOverlaps.overlaps #[23, 23] #[4]) (by kernel_rfl)]
    rw [Lib.run_overlaps_apart w 23 4 30 (by kernel_rfl) 4 (fun w => by kernel_rfl) ⟨vb, voff, none⟩ ⟨b, off + (i + 1) * 4, none⟩ 1 vc lb cb hvb vel el vcur.size cur.size (by simp [World.shape?, hV]) (by simp [World.shape?, hB]) (by omega) (by simp [World.frozen?, hV]) (by simp [World.frozen?, hV])]
    rfl
  have hdl : (cs.drop (i * 4)).length = (n - i) * 4 := by rw [List.length_drop, hcl, Nat.sub_mul]
  have hci : (i + 1) * 4 + (n - i) * 4 = (n + 1) * 4 := by rw [← Nat.add_mul]; congr 1; omega
  have hcn : (n + 1) * 4 ≤ c * 4 := Nat.mul_le_mul_right _ hroom
  have hin3 : i * 4 ≤ n * 4 := Nat.mul_le_mul_right _ (by omega)
  have hcurl : cur.toList.length = cur.size := by simp
  have hX1l : X1.length = cur.size := by
    rw [hX1]
    simp only [List.length_append, List.length_take, List.length_drop, hcurl, hdl] at *
    omega
  have hcp1 : ∀ ty dc sc, (Builtin.copy_ #[23, 23] ty #[.slice (some ⟨b, off + (i + 1) * 4, none⟩) (n - i) dc, .slice (some ⟨b, off + i * 4, none⟩) (n + 1 - i) sc]).run Try.prog w.drew = .ok (goInt ((n - i : Nat) : Int)) (w.drew.setRow b X1.toArray) := fun ty dc sc => by
    rw [hX1]
    exact run_copy_rowN w.drew _ _ ty 30 4 (n - i) b (off + (i + 1) * 4) (n - i) dc ⟨b, off + i * 4, none⟩ (n + 1 - i) sc cur el (cs.drop (i * 4)) (by kernel_rfl) (by kernel_rfl) hB
      (by simp only [Nat.min_def]; split <;> omega) hdl (fun j v hj => by rw [Addr.add_lit, Nat.add_assoc]; exact hcs (i * 4 + j) v (by rwa [List.getElem?_drop] at hj)) (by rw [hdl]; omega) (fun v hv => h1c v (List.mem_of_mem_drop hv))
  obtain ⟨W1, hW1⟩ : ∃ W1, W1 = w.drew.setRow b X1.toArray := ⟨_, rfl⟩
  have hB1 : W1.heap[b]? = some (.cells X1.toArray el (0, 0)) := by rw [hW1]; exact setRow_heap w.drew b cur _ el _ hB
  have hcp2 : ∀ (W : World), W.heap = W1.heap → ∀ ty dc, (Builtin.copy_ #[23, 23] ty #[.slice (some ⟨b, off + i * 4, none⟩) (n + 1 - i) dc, .slice (some ⟨vb, voff, none⟩) 1 vc]).run Try.prog W = .ok (goInt 1) (W.setRow b X2.toArray) := fun W hW ty dc => by
    rw [hX2]
    have := run_copy_rowN W 23 23 ty 30 4 1 b (off + i * 4) (n + 1 - i) dc ⟨vb, voff, none⟩ 1 vc X1.toArray el vs (P := Try.prog) (by kernel_rfl) (by kernel_rfl) (by rw [hW]; exact hB1)
      (by simp only [Nat.min_def]; split <;> omega) hvl (fun j v hj => by
        rw [Addr.add_lit]
        have : W.cell? ⟨vb, voff + j, none⟩ = w.cell? ⟨vb, voff + j, none⟩ := by
          have h1 : W.heap[vb]? = w.heap[vb]? := by rw [hW, hW1, setRow_other w.drew b vb _ hvb]; rfl
          simp only [World.cell?, h1]
        rw [this]; exact hvs j v hj) (by simp only [List.size_toArray, hX1l, hvl]; omega) h1v
    simpa using this
  rw [← hW1] at hcp1
  have mixed : Try.prog.follows .mixedOrders = true := by kernel_rfl
  have hw1 : IntKind.i64.wrap ((i : Int) + 1) = (i : Int) + 1 := by rw [IntKind.wrap_i64]; omega
  have hb1 : (0 : Int) ≤ (i : Int) + 1 := by omega
  have hin : i ≤ n := by omega
  have htn : ((i : Int) + 1).toNat = i + 1 := by omega
  have hb2 : ¬ (c = i + 1) := by omega
  have hb3 : (i : Int) ≤ (n : Int) + 1 := by omega
  have hb4 : ¬ (c = i) := by omega
  clear hci hcn hin3 hX1l hcurl hdl hcl hvl hcs hvs h1c h1v hX1 hX2 hB hV hB1 hfit
  go_enter Try.func52, Try.ntmps52
  go_wp2_with (simp only [hov])
  go_region_law_o (refine step_copy_runI rfl _ _ 23 23 rfl _ _ (by simp [Act.eval, Act.put]) (by simp [Act.eval, Act.put]) (hcp1 _ _ _) ?_)
  go_wp2_with (at_builtin; refine wpList_copy_runI _ rfl _ _ 23 23 rfl _ _ rfl rfl (hcp2 _ rfl _ _) ?_)
  go_ret
  subst hW1
  exact ⟨rfl, rfl, rfl, rfl, rfl⟩

set_option maxHeartbeats 4000000 in
set_option maxRecDepth 100000 in
/-- There is no room: a new row. -/
theorem Try.insC_grow (b off n c i vb voff vc : Nat) (cur vcur : Array Value) (el vel : TypeId) (cs vs : List Value) (w : World) (hi : i < n) (hnc : n ≤ c) (hroom : c < n + 1) (hbig : (n + 1) * 48 ≤ 140737488355328)
    (hB : w.heap[b]? = some (.cells cur el (0, 0))) (hV : w.heap[vb]? = some (.cells vcur vel (0, 0)))
    (hcl : cs.length = n * 4) (hvl : vs.length = 4)
    (hcs : ∀ j v, cs[j]? = some v → w.cell? ⟨b, off + j, none⟩ = some v)
    (hvs : ∀ j v, vs[j]? = some v → w.cell? ⟨vb, voff + j, none⟩ = some v) (h1c : ∀ v ∈ cs, v.oneCell' = true) (h1v : ∀ v ∈ vs, v.oneCell' = true)
    (zs : List Value) (hz : Builtin.zeroCells (Value.agg #[.string ⟨#[]⟩, .string ⟨#[]⟩, .int .i64 0, .bool false]).cells (n + 1 - i) = zs.toArray) (G : Nat) (hG : G = grownCap w (n + 1) c 30) (rest : List Value) (hrest : Builtin.zeroCells (Value.agg #[.string ⟨#[]⟩, .string ⟨#[]⟩, .int .i64 0, .bool false]).cells (G - (n + 1)) = rest.toArray)
    (ROW X1 X2 : List Value) (hROW : ROW = cs.take (i * 4) ++ zs ++ rest) (hX1 : X1 = ROW.take (i * 4) ++ vs ++ ROW.drop (i * 4 + vs.length)) (hX2 : X2 = X1.take ((i + 1) * 4) ++ cs.drop (i * 4) ++ X1.drop ((i + 1) * 4 + (cs.drop (i * 4)).length)) :
    Calls Try.prog 52 #[.slice (some ⟨b, off, none⟩) n c, .int .i64 i, .slice (some ⟨vb, voff, none⟩) 1 vc] w fun e w' =>
      e = .returned (.slice (some ⟨w.heap.size, 0, none⟩) (n + 1) G) ∧ w'.heap = (((w.alloc (.cells ROW.toArray 30)).setRow w.heap.size X1.toArray).setRow w.heap.size X2.toArray).heap ∧ w'.os = w.os ∧ w'.tape = w.tape ∧ w'.output = w.output := by
  have hz2 : ¬ ((i : Int) = (n : Int)) := by omega
  have hz3 : (c : Int) < (n : Int) + 1 := by omega
  have hbw : b < w.heap.size := (Array.getElem?_eq_some_iff.1 hB).1
  have hvw : vb < w.heap.size := (Array.getElem?_eq_some_iff.1 hV).1
  have hkk : (n : Int) + 1 - (i : Int) = ((n + 1 - i : Nat) : Int) := by omega
  have hik : i + (n + 1 - i) = n + 1 := by omega
  have hin3 : i * 4 ≤ n * 4 := Nat.mul_le_mul_right _ (by omega)
  have hci : (i + 1) * 4 + (n - i) * 4 = (n + 1) * 4 := by rw [← Nat.add_mul]; congr 1; omega
  have hdl : (cs.drop (i * 4)).length = (n - i) * 4 := by rw [List.length_drop, hcl, Nat.sub_mul]
  have hzl : zs.length = (n + 1 - i) * 4 := by
    have := congrArg Array.size hz
    simpa [Builtin.zeroCells, Value.cells] using this.symm
  have hold : (Builtin.firstCells 4 i (.slice (some ⟨b, off, none⟩) i c)).run Try.prog w.drew = .ok (cs.take (i * 4)).toArray w.drew := by
    exact run_firstCells_some w.drew 4 i ⟨b, off, none⟩ i c (cs.take (i * 4)) (by rw [List.length_take]; omega) (fun j v hj => by
      rw [Addr.add_lit]
      rw [List.getElem?_take] at hj
      split at hj
      · exact hcs j v hj
      · cases hj)
  obtain ⟨i0, hi0, hz0, hzs, hzb⟩ := info_parts (P := Try.prog) (e := 30) (z := Value.agg #[.string ⟨#[]⟩, .string ⟨#[]⟩, .int .i64 0, .bool false]) (size := 4) (bytes := 48) (by kernel_rfl)
  have hrz : ∀ ty, (Builtin.append_ #[23, 3] ty #[.slice (some ⟨b, off, none⟩) i c, .int .i64 ((n : Int) + 1 - (i : Int))]).run Try.prog w =
      .ok (.slice (some ⟨w.heap.size, 0, none⟩) (n + 1) G) (w.drew.alloc (.cells ROW.toArray 30)) := fun ty => by
    have h := Lib.run_append_grow_zeros w 23 3 ty 30 i0 _ .i64 .i64 (P := Try.prog) (by kernel_rfl) (by kernel_rfl) hi0 hz0 (some ⟨b, off, none⟩) i c (cs.take (i * 4)) (by rw [hzs]; exact hold) (n + 1 - i) (by omega) (by omega) (by omega) (by omega) (by rw [hzb]; omega) (by rw [hzb, hik]; exact growslice_fits hroom hbig)
    rw [hik, ← hG, hz, hrest] at h
    rw [hkk, h, hROW]
    simp
  have hROWl : (n + 1) * 4 ≤ ROW.length := by
    rw [hROW]
    have : (i + (n + 1 - i)) * 4 = (n + 1) * 4 := by rw [hik]
    simp only [List.length_append, List.length_take, hcl, hzl]
    omega
  have hX1l : X1.length = ROW.length := by
    rw [hX1]
    simp only [List.length_append, List.length_take, List.length_drop, hvl]
    omega
  obtain ⟨W1, hW1⟩ : ∃ W1, W1 = w.drew.alloc (.cells ROW.toArray 30) := ⟨_, rfl⟩
  have hN1 : W1.heap[w.heap.size]? = some (.cells ROW.toArray 30 (0, 0)) := by rw [hW1]; exact Array.getElem?_push_size
  have hO1 : ∀ k, k < w.heap.size → W1.heap[k]? = w.heap[k]? := fun k hk => by
    rw [hW1]
    show (w.drew.heap.push _)[k]? = _
    rw [Array.getElem?_push, if_neg (by show k ≠ w.heap.size; omega)]
    rfl
  have hcpA : ∀ (W : World), W.heap = W1.heap → ∀ ty dc, (Builtin.copy_ #[23, 23] ty #[.slice (some ⟨w.heap.size, i * 4, none⟩) (n + 1 - i) dc, .slice (some ⟨vb, voff, none⟩) 1 vc]).run Try.prog W = .ok (goInt 1) (W.setRow w.heap.size X1.toArray) := fun W hW ty dc => by
    rw [hX1]
    have := run_copy_rowN W 23 23 ty 30 4 1 w.heap.size (i * 4) (n + 1 - i) dc ⟨vb, voff, none⟩ 1 vc ROW.toArray _ vs (P := Try.prog) (by kernel_rfl) (by kernel_rfl) (by rw [hW]; exact hN1)
      (by simp only [Nat.min_def]; split <;> omega) hvl (fun j v hj => by
        rw [Addr.add_lit]
        have : W.cell? ⟨vb, voff + j, none⟩ = w.cell? ⟨vb, voff + j, none⟩ := by
          have h1 : W.heap[vb]? = w.heap[vb]? := by rw [hW, hO1 vb hvw]
          simp only [World.cell?, h1]
        rw [this]; exact hvs j v hj) (by simp only [List.size_toArray, hvl]; omega) h1v
    simpa using this
  obtain ⟨W2, hW2⟩ : ∃ W2, W2 = W1.setRow w.heap.size X1.toArray := ⟨_, rfl⟩
  have hN2 : W2.heap[w.heap.size]? = some (.cells X1.toArray 30 (0, 0)) := by rw [hW2]; exact setRow_heap W1 w.heap.size _ _ _ _ hN1
  have hcpB : ∀ (W : World), W.heap = (W1.setRow w.heap.size X1.toArray).heap → ∀ ty dc sc, (Builtin.copy_ #[23, 23] ty #[.slice (some ⟨w.heap.size, (i + 1) * 4, none⟩) (n - i) dc, .slice (some ⟨b, off + i * 4, none⟩) (n - i) sc]).run Try.prog W = .ok (goInt ((n - i : Nat) : Int)) (W.setRow w.heap.size X2.toArray) := fun W hW ty dc sc => by
    rw [hX2]
    have := run_copy_rowN W 23 23 ty 30 4 (n - i) w.heap.size ((i + 1) * 4) (n - i) dc ⟨b, off + i * 4, none⟩ (n - i) sc X1.toArray _ (cs.drop (i * 4)) (P := Try.prog) (by kernel_rfl) (by kernel_rfl) (by rw [hW, ← hW2]; exact hN2)
      (Nat.min_self _).symm hdl (fun j v hj => by
        rw [Addr.add_lit, Nat.add_assoc]
        have : W.cell? ⟨b, off + (i * 4 + j), none⟩ = w.cell? ⟨b, off + (i * 4 + j), none⟩ := by
          have h1 : W.heap[b]? = w.heap[b]? := by rw [hW, setRow_other W1 w.heap.size b _ (by omega), hO1 b hbw]
          simp only [World.cell?, h1]
        rw [this]; exact hcs (i * 4 + j) v (by rwa [List.getElem?_drop] at hj)) (by simp only [List.size_toArray, hdl, hX1l]; omega) (fun v hv => h1c v (List.mem_of_mem_drop hv))
    simpa using this
  rw [← hW1] at hrz
  have A : Aside (W1 = w.drew.alloc (.cells ROW.toArray 30)) := hW1
  have mixed : Try.prog.follows .mixedOrders = true := by kernel_rfl
  have hGn : n + 1 ≤ G := by rw [hG]; exact grownCap_ge w _ _ _
  have hG63 : G ≤ 9223372036854775807 := by
    have := grownCap_le_maxLen w (n + 1) c 30 (by unfold maxLen; omega)
    rw [← hG] at this
    unfold maxLen at this
    omega
  have hGi : ¬ (G = i) := by omega
  have hGim : ¬ (G = i + 1) := by omega
  have hci : ¬ (c = i) := by omega
  have hw1 : IntKind.i64.wrap ((i : Int) + 1) = (i : Int) + 1 := by rw [IntKind.wrap_i64]; omega
  have hb1 : (0 : Int) ≤ (i : Int) + 1 := by omega
  have hin : i ≤ n := by omega
  have htn : ((i : Int) + 1).toNat = i + 1 := by omega
  have hb3 : (i : Int) ≤ (n : Int) := by omega
  have hwb : W1.drew.heap = W1.heap := rfl
  clear hkk hik hin3 hdl hzl hold hz0 hzs hzb hi0 hROWl hX1l hz hrest hROW hX1 hX2 hcs hvs h1c h1v hcl hvl hB hV hN1 hN2 hO1 hbig hwb hG hW1 hW2
  go_enter Try.func52, Try.ntmps52
  go_wp2_with (first
    | (at_builtin; refine Lib.wpList_append_run _ rfl _ _ _ _ rfl _ _ rfl rfl _ _ (hrz _) ?_)
    | (at_builtin; refine wpList_copy_runI _ rfl _ _ 23 23 rfl _ _ rfl rfl (hcpA _ rfl _ _) ?_))
  go_region_law_o (refine step_copy_runI rfl _ _ 23 23 rfl (.slice (some ⟨w.heap.size, (i + 1) * 4, none⟩) (n - i) (G - (i + 1))) (.slice (some ⟨b, off + i * 4, none⟩) (n - i) (c - i)) (by simp [Act.eval, Act.put]) (by simp [Act.eval, Act.put]) (hcpB (W1.setRow w.heap.size X1.toArray).drew rfl _ _ _) ?_)
  go_wp2
  go_ret
  have hW1 := A.out
  subst hW1
  exact ⟨rfl, rfl, rfl, rfl, rfl⟩
end Go.Proofs
end

/- What is known: the library's insertion, by its walk. -/
section
set_option linter.unusedVariables false
set_option linter.unusedSimpArgs false
set_option maxRecDepth 100000
open Go Go.Sx Go.Proofs Go.Nov
namespace Go.Proofs.Try
attribute [local simp] eqKV eqA eqA0 eqH eqB eqL eqL0
noncomputable def K44 : List Go.Sx.Item := [.code (Try.f44.body.getD .skip)]
noncomputable def K52 : List Go.Sx.Item := [.code (Try.f52.body.getD .skip)]
theorem splice_get {α : Type} {l m : List α} {a : Nat} (h : a + m.length ≤ l.length) (k : Nat) : (l.take a ++ m ++ l.drop (a + m.length))[k]? = if k < a then l[k]? else if k < a + m.length then m[k - a]? else l[k]? := by
  have hl : (l.take a).length = a := by rw [List.length_take]; omega
  rw [List.getElem?_append, List.getElem?_append, hl]
  simp only [List.length_append, hl]
  by_cases h1 : k < a
  · rw [if_pos (by omega), if_pos h1, if_pos h1, List.getElem?_take, if_pos h1]
  · rw [if_neg h1, if_neg h1]
    by_cases h2 : k < a + m.length
    · rw [if_pos h2, if_pos h2]
    · rw [if_neg h2, if_neg h2, List.getElem?_drop]; congr 1; omega
theorem cut_get2 {l : List Value} {o k j : Nat} : ((l.drop o).take k)[j]? = if j < k then l[o + j]? else none := by
  rw [List.getElem?_take]
  split
  · rw [List.getElem?_drop]
  · rfl
theorem insF_walk : InsWalk Try.prog 44 3 40 := by
  intro b off n c i vb voff vc cur vcur el vel w hi hnc hbig hne hB hV hfit hvfit h1 h2
  have hcl : ((cur.toList.drop off).take (n * 3)).length = n * 3 := by
    have : n * 3 ≤ c * 3 := Nat.mul_le_mul_right _ hnc
    simp; omega
  have hvl : ((vcur.toList.drop voff).take 3).length = 3 := by simp; omega
  have hcs : ∀ j v, ((cur.toList.drop off).take (n * 3))[j]? = some v → w.cell? ⟨b, off + j, none⟩ = some v := fun j v hj => by
    rw [cut_get2] at hj
    split at hj
    · simp only [World.cell?, hB]; simpa using hj
    · cases hj
  have hvs : ∀ j v, ((vcur.toList.drop voff).take 3)[j]? = some v → w.cell? ⟨vb, voff + j, none⟩ = some v := fun j v hj => by
    rw [cut_get2] at hj
    split at hj
    · simp only [World.cell?, hV]; simpa using hj
    · cases hj
  have h1c : ∀ v ∈ (cur.toList.drop off).take (n * 3), v.oneCell' = true := fun v hv => by
    obtain ⟨j, hj⟩ := List.getElem?_of_mem hv
    rw [cut_get2] at hj
    split at hj
    · rename_i hlt; exact h1 j v hlt (by simpa using hj)
    · cases hj
  have h1v : ∀ v ∈ (vcur.toList.drop voff).take 3, v.oneCell' = true := fun v hv => by
    obtain ⟨j, hj⟩ := List.getElem?_of_mem hv
    rw [cut_get2] at hj
    split at hj
    · rename_i hlt; exact h2 j v hlt (by simpa using hj)
    · cases hj
  have hcg : ∀ j, j < n * 3 → ((cur.toList.drop off).take (n * 3))[j]? = cur[off + j]? := fun j hj => by rw [cut_get2, if_pos hj]; simp
  have hvg : ∀ j, j < 3 → ((vcur.toList.drop voff).take 3)[j]? = vcur[voff + j]? := fun j hj => by rw [cut_get2, if_pos hj]; simp
  generalize (cur.toList.drop off).take (n * 3) = cs at hcl hcs h1c hcg
  generalize (vcur.toList.drop voff).take 3 = vs at hvl hvs h1v hvg
  have hin3 : i * 3 + 3 ≤ n * 3 := by have := Nat.mul_le_mul_right 3 (show i + 1 ≤ n from hi); omega
  have hdl : (cs.drop (i * 3)).length = n * 3 - i * 3 := by rw [List.length_drop, hcl]
  have hbw : b < w.heap.size := (Array.getElem?_eq_some_iff.1 hB).1
  by_cases hroom : n + 1 ≤ c
  · have hcn : (n + 1) * 3 ≤ c * 3 := Nat.mul_le_mul_right _ hroom
    obtain ⟨X1, hX1⟩ : ∃ X1, X1 = cur.toList.take (off + (i + 1) * 3) ++ cs.drop (i * 3) ++ cur.toList.drop (off + (i + 1) * 3 + (cs.drop (i * 3)).length) := ⟨_, rfl⟩
    obtain ⟨X2, hX2⟩ : ∃ X2, X2 = X1.take (off + i * 3) ++ vs ++ X1.drop (off + i * 3 + vs.length) := ⟨_, rfl⟩
    have hX1l : X1.length = cur.size := by rw [hX1]; simp only [List.length_append, List.length_take, List.length_drop, Array.length_toList, hdl, hcl]; omega
    have hX2l : X2.length = cur.size := by rw [hX2]; simp only [List.length_append, List.length_take, List.length_drop, hX1l, hvl]; omega
    have g1 : ∀ k : Nat, X1[k]? = (if k < off + (i + 1) * 3 then cur.toList[k]? else if k < off + (i + 1) * 3 + (cs.drop (i * 3)).length then (cs.drop (i * 3))[k - (off + (i + 1) * 3)]? else cur.toList[k]?) := fun k => by rw [hX1]; exact splice_get (by simp only [Array.length_toList, hdl]; omega) k
    have g2 : ∀ k : Nat, X2[k]? = (if k < off + i * 3 then X1[k]? else if k < off + i * 3 + (vs).length then (vs)[k - (off + i * 3)]? else X1[k]?) := fun k => by rw [hX2]; exact splice_get (by rw [hX1l, hvl]; omega) k
    refine (insF_shift b off n c i vb voff vc cur vcur el vel cs vs w hi hroom (by omega) hne hB hV hfit hcl hvl hcs hvs h1c h1v X1 X2 hX1 hX2).mono ?_
    rintro e w' ⟨he, hh, hos, htape, hout⟩
    refine ⟨b, off, c, X2.toArray, el, he, hroom, ?_, by simp only [List.size_toArray, hX2l]; omega, ?_, .inl rfl, ?_, ?_, hos, htape, hout⟩
    · rw [hh]; exact setRow_heap _ b _ _ el _ (setRow_heap w b cur _ el _ hB)
    · intro j hj
      simp only [List.getElem?_toArray, g2, g1, hvl, hdl]
      by_cases k1 : j < i * 3
      · rw [if_pos (by omega), if_pos (by omega), if_pos k1]; simp
      · rw [if_neg (by omega), if_neg k1]
        by_cases k2 : j < i * 3 + 3
        · rw [if_pos (by omega), if_pos k2, show off + j - (off + i * 3) = j - i * 3 by omega, hvg _ (by omega)]
        · rw [if_neg (by omega), if_neg k2, if_neg (by omega), if_pos (by omega), List.getElem?_drop, hcg _ (by omega)]; congr 1; omega
    · rw [hh]; simp
    · intro k hk hkb
      rw [hh, setRow_other _ b k _ hkb, setRow_other _ b k _ hkb]
  · have hc1 : c < n + 1 := by omega
    obtain ⟨G, hG⟩ : ∃ G, G = grownCap w (n + 1) c 28 := ⟨_, rfl⟩
    have hGn : n + 1 ≤ G := by rw [hG]; exact grownCap_ge w _ _ _
    obtain ⟨zs, hz⟩ : ∃ zs : List Value, Builtin.zeroCells (Value.agg #[.string ⟨#[]⟩, .int .i64 0, .string ⟨#[]⟩]).cells (n + 1 - i) = zs.toArray := ⟨_, (Array.toArray_toList).symm⟩
    obtain ⟨rest, hrest⟩ : ∃ zs : List Value, Builtin.zeroCells (Value.agg #[.string ⟨#[]⟩, .int .i64 0, .string ⟨#[]⟩]).cells (G - (n + 1)) = zs.toArray := ⟨_, (Array.toArray_toList).symm⟩
    have hzl : zs.length = (n + 1 - i) * 3 := by
      have := congrArg Array.size hz
      simpa [Builtin.zeroCells, Value.cells] using this.symm
    have hrl : rest.length = (G - (n + 1)) * 3 := by
      have := congrArg Array.size hrest
      simpa [Builtin.zeroCells, Value.cells] using this.symm
    obtain ⟨ROW, hROW⟩ : ∃ ROW, ROW = cs.take (i * 3) ++ zs ++ rest := ⟨_, rfl⟩
    obtain ⟨X1, hX1⟩ : ∃ X1, X1 = ROW.take (i * 3) ++ vs ++ ROW.drop (i * 3 + vs.length) := ⟨_, rfl⟩
    obtain ⟨X2, hX2⟩ : ∃ X2, X2 = X1.take ((i + 1) * 3) ++ cs.drop (i * 3) ++ X1.drop ((i + 1) * 3 + (cs.drop (i * 3)).length) := ⟨_, rfl⟩
    have hsum : (n + 1) * 3 + (G - (n + 1)) * 3 = G * 3 := by rw [← Nat.add_mul]; congr 1; omega
    have hsum2 : i * 3 + (n + 1 - i) * 3 = (n + 1) * 3 := by rw [← Nat.add_mul]; congr 1; omega
    have hROWl : ROW.length = G * 3 := by
      rw [hROW]; simp only [List.length_append, List.length_take, hcl, hzl, hrl]; omega
    have hX1l : X1.length = G * 3 := by rw [hX1]; simp only [List.length_append, List.length_take, List.length_drop, hROWl, hvl]; omega
    have hX2l : X2.length = G * 3 := by rw [hX2]; simp only [List.length_append, List.length_take, List.length_drop, hX1l, hdl, hcl]; omega
    have g1 : ∀ k : Nat, X1[k]? = (if k < i * 3 then ROW[k]? else if k < i * 3 + (vs).length then (vs)[k - (i * 3)]? else ROW[k]?) := fun k => by rw [hX1]; exact splice_get (by rw [hROWl, hvl]; omega) k
    have g2 : ∀ k : Nat, X2[k]? = (if k < (i + 1) * 3 then X1[k]? else if k < (i + 1) * 3 + (cs.drop (i * 3)).length then (cs.drop (i * 3))[k - ((i + 1) * 3)]? else X1[k]?) := fun k => by rw [hX2]; exact splice_get (by rw [hX1l, hdl]; omega) k
    have g0 : ∀ k, k < i * 3 → ROW[k]? = cs[k]? := fun k hk => by
      rw [hROW, List.append_assoc, List.getElem?_append_left (by rw [List.length_take]; omega), List.getElem?_take, if_pos hk]
    refine (insF_grow b off n c i vb voff vc cur vcur el vel cs vs w hi hnc hc1 hbig hB hV hcl hvl hcs hvs h1c h1v zs hz G hG rest hrest ROW X1 X2 hROW hX1 hX2).mono ?_
    rintro e w' ⟨he, hh, hos, htape, hout⟩
    refine ⟨w.heap.size, 0, G, X2.toArray, 28, he, hGn, ?_, by simp only [List.size_toArray, hX2l]; omega, ?_, .inr (Nat.le_refl _), ?_, ?_, hos, htape, hout⟩
    · rw [hh]
      exact setRow_heap _ w.heap.size _ _ _ _ (setRow_heap _ w.heap.size _ _ _ _ (show ((w.heap.push _))[w.heap.size]? = some (.cells ROW.toArray 28 (0, 0)) from Array.getElem?_push_size))
    · intro j hj
      simp only [List.getElem?_toArray, Nat.zero_add, g2, g1, hvl, hdl]
      by_cases k1 : j < i * 3
      · rw [if_pos (by omega), if_pos k1, if_pos k1, g0 j k1, hcg j (by omega)]
      · simp only [if_neg k1]
        by_cases k2 : j < i * 3 + 3
        · rw [if_pos (by omega)]
          simp only [if_pos k2]
          exact hvg _ (by omega)
        · simp only [if_neg k2]
          rw [if_neg (by omega), if_pos (by omega), List.getElem?_drop, hcg _ (by omega)]; congr 1; omega
    · rw [hh, setRow_size, setRow_size]
      show _ ≤ (w.heap.push _).size
      rw [Array.size_push]; omega
    · intro k hk hkb
      rw [hh, setRow_other _ _ k _ (by omega), setRow_other _ _ k _ (by omega)]
      show (w.heap.push _)[k]? = _
      rw [Array.getElem?_push, if_neg (by omega)]
theorem insC_walk : InsWalk Try.prog 52 4 48 := by
  intro b off n c i vb voff vc cur vcur el vel w hi hnc hbig hne hB hV hfit hvfit h1 h2
  have hcl : ((cur.toList.drop off).take (n * 4)).length = n * 4 := by
    have : n * 4 ≤ c * 4 := Nat.mul_le_mul_right _ hnc
    simp; omega
  have hvl : ((vcur.toList.drop voff).take 4).length = 4 := by simp; omega
  have hcs : ∀ j v, ((cur.toList.drop off).take (n * 4))[j]? = some v → w.cell? ⟨b, off + j, none⟩ = some v := fun j v hj => by
    rw [cut_get2] at hj
    split at hj
    · simp only [World.cell?, hB]; simpa using hj
    · cases hj
  have hvs : ∀ j v, ((vcur.toList.drop voff).take 4)[j]? = some v → w.cell? ⟨vb, voff + j, none⟩ = some v := fun j v hj => by
    rw [cut_get2] at hj
    split at hj
    · simp only [World.cell?, hV]; simpa using hj
    · cases hj
  have h1c : ∀ v ∈ (cur.toList.drop off).take (n * 4), v.oneCell' = true := fun v hv => by
    obtain ⟨j, hj⟩ := List.getElem?_of_mem hv
    rw [cut_get2] at hj
    split at hj
    · rename_i hlt; exact h1 j v hlt (by simpa using hj)
    · cases hj
  have h1v : ∀ v ∈ (vcur.toList.drop voff).take 4, v.oneCell' = true := fun v hv => by
    obtain ⟨j, hj⟩ := List.getElem?_of_mem hv
    rw [cut_get2] at hj
    split at hj
    · rename_i hlt; exact h2 j v hlt (by simpa using hj)
    · cases hj
  have hcg : ∀ j, j < n * 4 → ((cur.toList.drop off).take (n * 4))[j]? = cur[off + j]? := fun j hj => by rw [cut_get2, if_pos hj]; simp
  have hvg : ∀ j, j < 4 → ((vcur.toList.drop voff).take 4)[j]? = vcur[voff + j]? := fun j hj => by rw [cut_get2, if_pos hj]; simp
  generalize (cur.toList.drop off).take (n * 4) = cs at hcl hcs h1c hcg
  generalize (vcur.toList.drop voff).take 4 = vs at hvl hvs h1v hvg
  have hin3 : i * 4 + 4 ≤ n * 4 := by have := Nat.mul_le_mul_right 4 (show i + 1 ≤ n from hi); omega
  have hdl : (cs.drop (i * 4)).length = n * 4 - i * 4 := by rw [List.length_drop, hcl]
  have hbw : b < w.heap.size := (Array.getElem?_eq_some_iff.1 hB).1
  by_cases hroom : n + 1 ≤ c
  · have hcn : (n + 1) * 4 ≤ c * 4 := Nat.mul_le_mul_right _ hroom
    obtain ⟨X1, hX1⟩ : ∃ X1, X1 = cur.toList.take (off + (i + 1) * 4) ++ cs.drop (i * 4) ++ cur.toList.drop (off + (i + 1) * 4 + (cs.drop (i * 4)).length) := ⟨_, rfl⟩
    obtain ⟨X2, hX2⟩ : ∃ X2, X2 = X1.take (off + i * 4) ++ vs ++ X1.drop (off + i * 4 + vs.length) := ⟨_, rfl⟩
    have hX1l : X1.length = cur.size := by rw [hX1]; simp only [List.length_append, List.length_take, List.length_drop, Array.length_toList, hdl, hcl]; omega
    have hX2l : X2.length = cur.size := by rw [hX2]; simp only [List.length_append, List.length_take, List.length_drop, hX1l, hvl]; omega
    have g1 : ∀ k : Nat, X1[k]? = (if k < off + (i + 1) * 4 then cur.toList[k]? else if k < off + (i + 1) * 4 + (cs.drop (i * 4)).length then (cs.drop (i * 4))[k - (off + (i + 1) * 4)]? else cur.toList[k]?) := fun k => by rw [hX1]; exact splice_get (by simp only [Array.length_toList, hdl]; omega) k
    have g2 : ∀ k : Nat, X2[k]? = (if k < off + i * 4 then X1[k]? else if k < off + i * 4 + (vs).length then (vs)[k - (off + i * 4)]? else X1[k]?) := fun k => by rw [hX2]; exact splice_get (by rw [hX1l, hvl]; omega) k
    refine (insC_shift b off n c i vb voff vc cur vcur el vel cs vs w hi hroom (by omega) hne hB hV hfit hcl hvl hcs hvs h1c h1v X1 X2 hX1 hX2).mono ?_
    rintro e w' ⟨he, hh, hos, htape, hout⟩
    refine ⟨b, off, c, X2.toArray, el, he, hroom, ?_, by simp only [List.size_toArray, hX2l]; omega, ?_, .inl rfl, ?_, ?_, hos, htape, hout⟩
    · rw [hh]; exact setRow_heap _ b _ _ el _ (setRow_heap w b cur _ el _ hB)
    · intro j hj
      simp only [List.getElem?_toArray, g2, g1, hvl, hdl]
      by_cases k1 : j < i * 4
      · rw [if_pos (by omega), if_pos (by omega), if_pos k1]; simp
      · rw [if_neg (by omega), if_neg k1]
        by_cases k2 : j < i * 4 + 4
        · rw [if_pos (by omega), if_pos k2, show off + j - (off + i * 4) = j - i * 4 by omega, hvg _ (by omega)]
        · rw [if_neg (by omega), if_neg k2, if_neg (by omega), if_pos (by omega), List.getElem?_drop, hcg _ (by omega)]; congr 1; omega
    · rw [hh]; simp
    · intro k hk hkb
      rw [hh, setRow_other _ b k _ hkb, setRow_other _ b k _ hkb]
  · have hc1 : c < n + 1 := by omega
    obtain ⟨G, hG⟩ : ∃ G, G = grownCap w (n + 1) c 30 := ⟨_, rfl⟩
    have hGn : n + 1 ≤ G := by rw [hG]; exact grownCap_ge w _ _ _
    obtain ⟨zs, hz⟩ : ∃ zs : List Value, Builtin.zeroCells (Value.agg #[.string ⟨#[]⟩, .string ⟨#[]⟩, .int .i64 0, .bool false]).cells (n + 1 - i) = zs.toArray := ⟨_, (Array.toArray_toList).symm⟩
    obtain ⟨rest, hrest⟩ : ∃ zs : List Value, Builtin.zeroCells (Value.agg #[.string ⟨#[]⟩, .string ⟨#[]⟩, .int .i64 0, .bool false]).cells (G - (n + 1)) = zs.toArray := ⟨_, (Array.toArray_toList).symm⟩
    have hzl : zs.length = (n + 1 - i) * 4 := by
      have := congrArg Array.size hz
      simpa [Builtin.zeroCells, Value.cells] using this.symm
    have hrl : rest.length = (G - (n + 1)) * 4 := by
      have := congrArg Array.size hrest
      simpa [Builtin.zeroCells, Value.cells] using this.symm
    obtain ⟨ROW, hROW⟩ : ∃ ROW, ROW = cs.take (i * 4) ++ zs ++ rest := ⟨_, rfl⟩
    obtain ⟨X1, hX1⟩ : ∃ X1, X1 = ROW.take (i * 4) ++ vs ++ ROW.drop (i * 4 + vs.length) := ⟨_, rfl⟩
    obtain ⟨X2, hX2⟩ : ∃ X2, X2 = X1.take ((i + 1) * 4) ++ cs.drop (i * 4) ++ X1.drop ((i + 1) * 4 + (cs.drop (i * 4)).length) := ⟨_, rfl⟩
    have hsum : (n + 1) * 4 + (G - (n + 1)) * 4 = G * 4 := by rw [← Nat.add_mul]; congr 1; omega
    have hsum2 : i * 4 + (n + 1 - i) * 4 = (n + 1) * 4 := by rw [← Nat.add_mul]; congr 1; omega
    have hROWl : ROW.length = G * 4 := by
      rw [hROW]; simp only [List.length_append, List.length_take, hcl, hzl, hrl]; omega
    have hX1l : X1.length = G * 4 := by rw [hX1]; simp only [List.length_append, List.length_take, List.length_drop, hROWl, hvl]; omega
    have hX2l : X2.length = G * 4 := by rw [hX2]; simp only [List.length_append, List.length_take, List.length_drop, hX1l, hdl, hcl]; omega
    have g1 : ∀ k : Nat, X1[k]? = (if k < i * 4 then ROW[k]? else if k < i * 4 + (vs).length then (vs)[k - (i * 4)]? else ROW[k]?) := fun k => by rw [hX1]; exact splice_get (by rw [hROWl, hvl]; omega) k
    have g2 : ∀ k : Nat, X2[k]? = (if k < (i + 1) * 4 then X1[k]? else if k < (i + 1) * 4 + (cs.drop (i * 4)).length then (cs.drop (i * 4))[k - ((i + 1) * 4)]? else X1[k]?) := fun k => by rw [hX2]; exact splice_get (by rw [hX1l, hdl]; omega) k
    have g0 : ∀ k, k < i * 4 → ROW[k]? = cs[k]? := fun k hk => by
      rw [hROW, List.append_assoc, List.getElem?_append_left (by rw [List.length_take]; omega), List.getElem?_take, if_pos hk]
    refine (insC_grow b off n c i vb voff vc cur vcur el vel cs vs w hi hnc hc1 hbig hB hV hcl hvl hcs hvs h1c h1v zs hz G hG rest hrest ROW X1 X2 hROW hX1 hX2).mono ?_
    rintro e w' ⟨he, hh, hos, htape, hout⟩
    refine ⟨w.heap.size, 0, G, X2.toArray, 30, he, hGn, ?_, by simp only [List.size_toArray, hX2l]; omega, ?_, .inr (Nat.le_refl _), ?_, ?_, hos, htape, hout⟩
    · rw [hh]
      exact setRow_heap _ w.heap.size _ _ _ _ (setRow_heap _ w.heap.size _ _ _ _ (show ((w.heap.push _))[w.heap.size]? = some (.cells ROW.toArray 30 (0, 0)) from Array.getElem?_push_size))
    · intro j hj
      simp only [List.getElem?_toArray, Nat.zero_add, g2, g1, hvl, hdl]
      by_cases k1 : j < i * 4
      · rw [if_pos (by omega), if_pos k1, if_pos k1, g0 j k1, hcg j (by omega)]
      · simp only [if_neg k1]
        by_cases k2 : j < i * 4 + 4
        · rw [if_pos (by omega)]
          simp only [if_pos k2]
          exact hvg _ (by omega)
        · simp only [if_neg k2]
          rw [if_neg (by omega), if_pos (by omega), List.getElem?_drop, hcg _ (by omega)]; congr 1; omega
    · rw [hh, setRow_size, setRow_size]
      show _ ≤ (w.heap.push _).size
      rw [Array.size_push]; omega
    · intro k hk hkb
      rw [hh, setRow_other _ _ k _ (by omega), setRow_other _ _ k _ (by omega)]
      show (w.heap.push _)[k]? = _
      rw [Array.getElem?_push, if_neg (by omega)]

theorem insG_fx {l : List Fx} {x : Fx} {i : Nat} (hi : i ≤ l.length) {gl gv : Nat → Nat → AV} (hl : eqG l.length 3 gl (fxG l)) (hv : eqG 1 3 gv (fxG [x])) : eqG (l.length + 1) 3 (insG i gl gv) (fxG (l.take i ++ x :: l.drop i)) := by
  intro j o hj ho
  have hlt : (l.take i).length = i := by rw [List.length_take]; omega
  simp only [insG]
  have e : fxG (l.take i ++ x :: l.drop i) j o = ((l.take i ++ x :: l.drop i).getD j Fx.nil).cell o := rfl
  rw [e]
  simp only [List.getD, List.getElem?_append, hlt]
  by_cases h1 : j < i
  · rw [if_pos h1, if_pos h1, hl j o (by omega) ho, List.getElem?_take, if_pos h1]; rfl
  · rw [if_neg h1, if_neg h1]
    by_cases h2 : j = i
    · subst h2
      rw [if_pos rfl, hv 0 o (by decide) ho, Nat.sub_self]; rfl
    · rw [if_neg h2, hl (j - 1) o (by omega) ho]
      obtain ⟨k, hk⟩ := Nat.exists_eq_succ_of_ne_zero (show j - i ≠ 0 by omega)
      rw [hk, List.getElem?_cons_succ, List.getElem?_drop, show i + k = j - 1 by omega]; rfl
theorem insG_ch {l : List Ch} {x : Ch} {i : Nat} (hi : i ≤ l.length) {gl gv : Nat → Nat → AV} (hl : eqG l.length 4 gl (chG l)) (hv : eqG 1 4 gv (chG [x])) : eqG (l.length + 1) 4 (insG i gl gv) (chG (l.take i ++ x :: l.drop i)) := by
  intro j o hj ho
  have hlt : (l.take i).length = i := by rw [List.length_take]; omega
  simp only [insG]
  have e : chG (l.take i ++ x :: l.drop i) j o = ((l.take i ++ x :: l.drop i).getD j Ch.nil).cell o := rfl
  rw [e]
  simp only [List.getD, List.getElem?_append, hlt]
  by_cases h1 : j < i
  · rw [if_pos h1, if_pos h1, hl j o (by omega) ho, List.getElem?_take, if_pos h1]; rfl
  · rw [if_neg h1, if_neg h1]
    by_cases h2 : j = i
    · subst h2
      rw [if_pos rfl, hv 0 o (by decide) ho, Nat.sub_self]; rfl
    · rw [if_neg h2, hl (j - 1) o (by omega) ho]
      obtain ⟨k, hk⟩ := Nat.exists_eq_succ_of_ne_zero (show j - i ≠ 0 by omega)
      rw [hk, List.getElem?_cons_succ, List.getElem?_drop, show i + k = j - 1 by omega]; rfl
def insFC : Ctr := ctrT false true (fun p : List Fx × Fx × Nat => [.osl 0 3 0 p.1.length, .int .i64 (p.2.2 : Int), .osl 1 3 0 1]) (fun p => [.arr p.1.length 3 (fxG p.1), .arr 1 3 (fxG [p.2.1])]) (fun p => p.2.2 ≤ p.1.length ∧ p.1.length < 2 ^ 40) (fun _ (_ : Unit) => True) (fun p (_ : Unit) => (.osl 0 3 0 (p.1.length + 1), [.arr (p.1.length + 1) 3 (fxG (p.1.take p.2.2 ++ p.2.1 :: p.1.drop p.2.2)), .dead]))
def insCC : Ctr := ctrT false true (fun p : List Ch × Ch × Nat => [.osl 0 4 0 p.1.length, .int .i64 (p.2.2 : Int), .osl 1 4 0 1]) (fun p => [.arr p.1.length 4 (chG p.1), .arr 1 4 (chG [p.2.1])]) (fun p => p.2.2 ≤ p.1.length ∧ p.1.length < 2 ^ 40) (fun _ (_ : Unit) => True) (fun p (_ : Unit) => (.osl 0 4 0 (p.1.length + 1), [.arr (p.1.length + 1) 4 (chG (p.1.take p.2.2 ++ p.2.1 :: p.1.drop p.2.2)), .dead]))
def insFCe : Ctr := ctrT false true (fun p : List Fx × Fx × Nat => [.osl 0 3 0 p.1.length, .int .i64 (p.2.2 : Int), .osl 1 3 0 1]) (fun p => [.arr p.1.length 3 (fxG p.1), .arr 1 3 (fxG [p.2.1])]) (fun p => p.2.2 = p.1.length ∧ p.1.length < 2 ^ 40) (fun _ (_ : Unit) => True) (fun p (_ : Unit) => (.osl 0 3 0 (p.1.length + 1), [.arr (p.1.length + 1) 3 (fxG (p.1.take p.2.2 ++ p.2.1 :: p.1.drop p.2.2)), .dead]))
def insCCe : Ctr := ctrT false true (fun p : List Ch × Ch × Nat => [.osl 0 4 0 p.1.length, .int .i64 (p.2.2 : Int), .osl 1 4 0 1]) (fun p => [.arr p.1.length 4 (chG p.1), .arr 1 4 (chG [p.2.1])]) (fun p => p.2.2 = p.1.length ∧ p.1.length < 2 ^ 40) (fun _ (_ : Unit) => True) (fun p (_ : Unit) => (.osl 0 4 0 (p.1.length + 1), [.arr (p.1.length + 1) 4 (chG (p.1.take p.2.2 ++ p.2.1 :: p.1.drop p.2.2)), .dead]))

theorem insFe_ok : CtrOK Try.prog 44 insFCe := by
  refine fn_ctrT (fn := Try.f44) (c := Try.f44.body.getD .skip) rfl rfl rfl (fun h => by cases h) fun p hp O w0 σ0 Q hl0 hq => ?_
  obtain ⟨l, x, i⟩ := p
  obtain ⟨h1, h2⟩ := hp
  replace hq := hq () trivial
  simp only at hq h1 h2
  refine SafeK.run (k := K44) hmix noG_ok [] 400 (T := Tree.side ((0 : Int) ≤ (↑i : Int) ∧ (↑i : Int) ≤ (↑(List.length l) : Int)) (Tree.ite false (Tree.leaf (Leaf2.ret [AV.osl (0 : Nat) (3 : Nat) (0 : Nat) (List.length l)] [Blk.arr (List.length l) (3 : Nat) (fxG l), Blk.arr (1 : Nat) (3 : Nat) (fxG [x])])) (Tree.ite (decide ((↑i : Int) = (↑(List.length l) : Int))) (Tree.side ((0 : Nat) = (0 : Nat) ∧ List.length l ≤ List.length l ∧ (List.length l + (1 : Nat)) * (40 : Nat) ≤ (140737488355328 : Nat)) (Tree.leaf (Leaf2.ret [AV.osl (0 : Nat) (3 : Nat) (0 : Nat) (List.length l + (1 : Nat))] [Blk.arr (List.length l + (1 : Nat)) (3 : Nat) (appG (List.length l) (fxG l) (viewG (fxG [x]) (0 : Nat))), Blk.arr (1 : Nat) (3 : Nat) (fxG [x])]))) (Tree.side (inR IntKind.i64 ((↑(List.length l) : Int) + (1 : Int))) Tree.fail)))) (by kernel_rfl) ?_
  simp only [Tree.holds, Leafs2]
  refine ⟨by omega, fun _ => ⟨fun h => by simp at h, fun _ => ⟨fun h => ⟨⟨trivial, Nat.le_refl _, by omega⟩, fun _ => ?_⟩, fun h => ?_⟩⟩⟩
  · refine RetR.keep [0, 1] rfl rfl (by show ∀ j, j < 2 → _; decide) rfl hq (by simp [resV, exp2, exp1, exp0, posIn, eqA2]) ?_ rfl
    refine ⟨⟨rfl, rfl, ?_⟩, trivial, trivial⟩
    have e : l.take i ++ x :: l.drop i = l ++ [x] := by rw [h1, List.take_length, List.drop_length]
    rw [e]
    intro j o hj ho
    simp only [appG, fxG, getD_snoc, viewG, Nat.zero_add]
    split
    · rfl
    · have : j = l.length := by omega
      subst this
      rw [if_pos rfl, Nat.sub_self]; rfl
  · exact absurd h1 (by have := of_decide_eq_false h; omega)
theorem insCe_ok : CtrOK Try.prog 52 insCCe := by
  refine fn_ctrT (fn := Try.f52) (c := Try.f52.body.getD .skip) rfl rfl rfl (fun h => by cases h) fun p hp O w0 σ0 Q hl0 hq => ?_
  obtain ⟨l, x, i⟩ := p
  obtain ⟨h1, h2⟩ := hp
  replace hq := hq () trivial
  simp only at hq h1 h2
  refine SafeK.run (k := K52) hmix noG_ok [] 400 (T := Tree.side ((0 : Int) ≤ (↑i : Int) ∧ (↑i : Int) ≤ (↑(List.length l) : Int)) (Tree.ite false (Tree.leaf (Leaf2.ret [AV.osl (0 : Nat) (4 : Nat) (0 : Nat) (List.length l)] [Blk.arr (List.length l) (4 : Nat) (chG l), Blk.arr (1 : Nat) (4 : Nat) (chG [x])])) (Tree.ite (decide ((↑i : Int) = (↑(List.length l) : Int))) (Tree.side ((0 : Nat) = (0 : Nat) ∧ List.length l ≤ List.length l ∧ (List.length l + (1 : Nat)) * (48 : Nat) ≤ (140737488355328 : Nat)) (Tree.leaf (Leaf2.ret [AV.osl (0 : Nat) (4 : Nat) (0 : Nat) (List.length l + (1 : Nat))] [Blk.arr (List.length l + (1 : Nat)) (4 : Nat) (appG (List.length l) (chG l) (viewG (chG [x]) (0 : Nat))), Blk.arr (1 : Nat) (4 : Nat) (chG [x])]))) (Tree.side (inR IntKind.i64 ((↑(List.length l) : Int) + (1 : Int))) Tree.fail)))) (by kernel_rfl) ?_
  simp only [Tree.holds, Leafs2]
  refine ⟨by omega, fun _ => ⟨fun h => by simp at h, fun _ => ⟨fun h => ⟨⟨trivial, Nat.le_refl _, by omega⟩, fun _ => ?_⟩, fun h => ?_⟩⟩⟩
  · refine RetR.keep [0, 1] rfl rfl (by show ∀ j, j < 2 → _; decide) rfl hq (by simp [resV, exp2, exp1, exp0, posIn, eqA2]) ?_ rfl
    refine ⟨⟨rfl, rfl, ?_⟩, trivial, trivial⟩
    have e : l.take i ++ x :: l.drop i = l ++ [x] := by rw [h1, List.take_length, List.drop_length]
    rw [e]
    intro j o hj ho
    simp only [appG, chG, getD_snoc, viewG, Nat.zero_add]
    split
    · rfl
    · have : j = l.length := by omega
      subst this
      rw [if_pos rfl, Nat.sub_self]; rfl
  · exact absurd h1 (by have := of_decide_eq_false h; omega)
theorem insF_ok : CtrOK Try.prog 44 insFC := by
  intro args hc Q hq hfr
  obtain ⟨⟨l, x, i⟩, ⟨h1, h2, h3, h4, h5⟩, h6, h7⟩ := hq
  simp only at h1 h2 h3 h4 h5 h7
  rcases Nat.lt_or_ge i l.length with hlt | hge
  · exact CtrAt.le h1 (CtrAt.leH h2 h3 (ins_ctr (fn := Try.f44) (c := Try.f44.body.getD .skip) rfl rfl rfl (by decide) insF_walk hlt (by omega) (insG_fx h4 (eqG_refl _ _ _) (eqG_refl _ _ _)) rfl rfl (h7 () trivial)))
  · exact insFe_ok args hc Q ⟨(l, x, i), ⟨h1, h2, h3, by show i = l.length; omega, h5⟩, h6, h7⟩ hfr
theorem insC_ok : CtrOK Try.prog 52 insCC := by
  intro args hc Q hq hfr
  obtain ⟨⟨l, x, i⟩, ⟨h1, h2, h3, h4, h5⟩, h6, h7⟩ := hq
  simp only at h1 h2 h3 h4 h5 h7
  rcases Nat.lt_or_ge i l.length with hlt | hge
  · exact CtrAt.le h1 (CtrAt.leH h2 h3 (ins_ctr (fn := Try.f52) (c := Try.f52.body.getD .skip) rfl rfl rfl (by decide) insC_walk hlt (by omega) (insG_ch h4 (eqG_refl _ _ _) (eqG_refl _ _ _)) rfl rfl (h7 () trivial)))
  · exact insCe_ok args hc Q ⟨(l, x, i), ⟨h1, h2, h3, by show i = l.length; omega, h5⟩, h6, h7⟩ hfr
end Go.Proofs.Try
end

/- What is known: the code's places. -/
section
set_option linter.unusedVariables false
set_option linter.unusedSimpArgs false
set_option maxRecDepth 100000
open Go Go.Sx Go.Proofs Go.Nov
namespace Go.Proofs.Try
attribute [local simp] eqKV eqA eqA0 eqH eqB eqL eqL0
noncomputable def K20 : List Go.Sx.Item := [.code (Try.f20.body.getD .skip)]
noncomputable def K27 : List Go.Sx.Item := [.code (Try.f27.body.getD .skip)]
noncomputable def K6 : List Go.Sx.Item := [.code (Try.f6.body.getD .skip)]
noncomputable def K8 : List Go.Sx.Item := [.code (Try.f8.body.getD .skip)]
def GPl : Nat → Option Ctr := fun f => if f = 21 then some fixingsC else if f = 28 then some choicesC else if f = 29 then some cloneFC else if f = 22 then some cloneCC else if f = 31 then some indexFC else if f = 38 then some indexCC else if f = 44 then some insFC else if f = 52 then some insCC else none
theorem GPl_ok : ∀ g c, GPl g = some c → CtrOK Try.prog g c := by
  intro g c h
  simp only [GPl] at h
  split at h
  · rename_i hg; subst hg; cases h; exact fixings_ok
  split at h
  · rename_i hg; subst hg; cases h; exact choices_ok
  split at h
  · rename_i hg; subst hg; cases h; exact cloneF_ok
  split at h
  · rename_i hg; subst hg; cases h; exact cloneC_ok
  split at h
  · rename_i hg; subst hg; cases h; exact indexF_ok
  split at h
  · rename_i hg; subst hg; cases h; exact indexC_ok
  split at h
  · rename_i hg; subst hg; cases h; exact insF_ok
  split at h
  · rename_i hg; subst hg; cases h; exact insC_ok
  cases h

def SPl (l : List Fx) (i : Nat) : KV := [(0, fxS l), (2, .fn 21 [] []), (4, .ptr 0 0), (8, .osl 1 3 0 l.length), (10, .int .i64 (i : Int)), (29, .undef), (30, .undef), (31, .undef), (32, .undef), (33, .undef), (34, .undef), (35, .undef), (36, .undef)]
def HPl (l : List Fx) (x : Fx) : Heap := [.box [.str x.name, .int .i64 x.date, .str x.value], .arr l.length 3 (fxG l)]
def SQl (l : List Ch) (i : Nat) : KV := [(0, chS l), (2, .fn 28 [] []), (4, .ptr 0 0), (8, .osl 1 4 0 l.length), (10, .int .i64 (i : Int)), (29, .undef), (30, .undef), (31, .undef), (32, .undef), (33, .undef), (34, .undef), (35, .undef), (36, .undef)]
def HQl (l : List Ch) (x : Ch) : Heap := [.box [.str x.party, .str x.name, .int .i64 x.date, .bool x.first], .arr l.length 4 (chG l)]
def placedFC : Ctr := ctrP true (fun p : List Fx × Fx => [fxS p.1, p.2.av, .fn 21 [] []]) (fun p => p.1.length ≤ 1000 ∧ ordB cmpF Fx.nil p.1 = true) (fun p (r : List Fx × Bool) => r = (placeL cmpF p.2 p.1, decide ((placeL cmpF p.2 p.1).length ≤ 1000))) (fun _ r => (.tup [.osl 0 3 0 r.1.length, .bool r.2], [.arr r.1.length 3 (fxG r.1)]))
theorem placedF_ok : CtrOK Try.prog 20 placedFC := by
  refine fn_ctrP (fn := Try.f20) (c := Try.f20.body.getD .skip) rfl rfl rfl fun p hp O w0 Q hq => ?_
  obtain ⟨l, x⟩ := p
  obtain ⟨hl, hord⟩ := hp
  replace hq := hq _ rfl
  simp only at hq hl hord
  have hpw := pair_of ordF_k hord
  refine SafeK.run (k := K20) hmix GPl_ok [0, 2, 4, 8, 10, 29, 30, 31, 32, 33, 34, 35, 36] 400 (T := Tree.ex (fun (x : List Fx) => eqL [AV.sl (List.length l) (3 : Nat) (fxG l)] [AV.sl (List.length x) (3 : Nat) (fxG x)] ∧ List.length x < (1099511627776 : Nat)) fun (n : List Fx) => Tree.all (fun (x : Unit) => True) fun (n_1 : Unit) => Tree.ex (fun (x_1 : List Fx × Fx) => eqL [AV.sl (List.length n) (3 : Nat) (viewG (fxG n) (0 : Nat)), AV.agg [AV.str (Fx.name x), AV.int IntKind.i64 (Fx.date x), AV.str (Fx.value x)], AV.fn (21 : Nat) [] []] [AV.sl (List.length (Prod.fst x_1)) (3 : Nat) (fxG (Prod.fst x_1)), AV.agg [AV.str (Fx.name (Prod.snd x_1)), AV.int IntKind.i64 (Fx.date (Prod.snd x_1)), AV.str (Fx.value (Prod.snd x_1))], AV.fn (21 : Nat) [] []] ∧ List.length (Prod.fst x_1) < (1099511627776 : Nat)) fun (n_2 : List Fx × Fx) => Tree.all (fun (r : Int) => r = idxB (fun (x : Fx) => decide (cmpF x (Prod.snd n_2) = (0 : Int))) (Prod.fst n_2)) fun (n_3 : Int) => Tree.ite (decide ((0 : Int) ≤ n_3)) (Tree.side ((0 : Int) ≤ n_3 ∧ n_3 < (↑(List.length n) : Int)) (Tree.leaf (Leaf2.ret [AV.osl (1 : Nat) (3 : Nat) (0 : Nat) (List.length n), AV.bool true] [Blk.box [AV.str (Fx.name x), AV.int IntKind.i64 (Fx.date x), AV.str (Fx.value x)], Blk.arr (List.length n) (3 : Nat) (updG (fxG n) ((0 : Nat) + Int.toNat n_3) (0 : Nat) [AV.str (Fx.name x), AV.int IntKind.i64 (Fx.date x), AV.str (Fx.value x)])]))) (Tree.leaf (Leaf2.loop (Prod.fst (lps K20 (0 : Nat))) (Prod.snd (lps K20 (0 : Nat))) [((0 : Nat), AV.sl (List.length l) (3 : Nat) (fxG l)), ((2 : Nat), AV.fn (21 : Nat) [] []), ((4 : Nat), AV.ptr (0 : Nat) (0 : Nat)), ((8 : Nat), AV.osl (1 : Nat) (3 : Nat) (0 : Nat) (List.length n)), ((10 : Nat), AV.int IntKind.i64 (0 : Int)), ((29 : Nat), AV.undef), ((30 : Nat), AV.undef), ((31 : Nat), AV.undef), ((32 : Nat), AV.undef), ((33 : Nat), AV.undef), ((34 : Nat), AV.undef), ((35 : Nat), AV.undef), ((36 : Nat), AV.undef)] [Blk.box [AV.str (Fx.name x), AV.int IntKind.i64 (Fx.date x), AV.str (Fx.value x)], Blk.arr (List.length n) (3 : Nat) (fxG n)]))) (by kernel_rfl) ?_
  simp only [Tree.holds, Leafs2]
  have fin : ∀ (r : List Fx) (b : Bool) (h : Heap) (g : Nat → Nat → AV), r = placeL cmpF x l → b = decide ((placeL cmpF x l).length ≤ 1000) → h.length = 2 ∨ h.length = 3 → h.getD 1 .dead = .arr r.length 3 g → eqG r.length 3 g (fxG r) → RetR placedFC 0 Q [.osl 1 3 0 r.length, .bool b] h := by
    intro r b h g hr hb hlen hh hg
    subst hr; subst hb
    refine RetR.outs [1] rfl (by simp; omega) hq (fun _ => ⟨?_, ?_⟩) ?_ ?_ rfl
    · simp [resV, new2, new1, new0, posIn, scalA]
    · simp only [List.mem_cons, List.not_mem_nil, or_false, forall_eq, hh]
      exact newB_fx hg
    · simp [resV, exp2, exp1, exp0, posIn, ren0, eqA2, eqL1]
    · simp only [expH, List.map_cons, List.map_nil, hh, expB]
      exact ⟨⟨rfl, rfl, hg⟩, trivial⟩
  refine ⟨l, ⟨by simp [eqG_refl], by omega⟩, ⟨(), trivial⟩, fun _ _ => ⟨(l, x), ⟨by simp [eqG_view0], by show l.length < 2 ^ 40; omega⟩, ⟨_, rfl⟩, ?_⟩⟩
  rintro _ rfl
  obtain ⟨hlt, hfd⟩ := idxB_find (p := fun y => decide (cmpF y x = 0)) Fx.nil l
  refine ⟨fun h => ?_, fun h => ?_⟩
  · have h := of_decide_eq_true h
    rw [if_pos h] at hfd
    simp only at h hlt ⊢
    have hk := List.find?_some hfd
    have hk : cmpF (l.getD (idxB (fun y => decide (cmpF y x = 0)) l).toNat Fx.nil) x = 0 := of_decide_eq_true hk
    have hsp := set_place ordF_k (x := x) (z := Fx.nil) hpw (show (idxB (fun y => decide (cmpF y x = 0)) l).toNat < l.length by omega) hk
    refine ⟨⟨h, hlt⟩, fun _ => ?_⟩
    have hlen : (l.set (idxB (fun y => decide (cmpF y x = 0)) l).toNat x).length = l.length := List.length_set
    have := fin _ true _ (updG (fxG l) (0 + (idxB (fun y => decide (cmpF y x = 0)) l).toNat) 0 [.str x.name, .int .i64 x.date, .str x.value]) hsp (by rw [← hsp, hlen]; exact (decide_eq_true hl).symm) (.inl (rfl : ([.box [.str x.name, .int .i64 x.date, .str x.value], .arr l.length 3 (updG (fxG l) (0 + (idxB (fun y => decide (cmpF y x = 0)) l).toNat) 0 [.str x.name, .int .i64 x.date, .str x.value])] : Heap).length = 2)) (by rw [hlen]; rfl) (by rw [hlen, Nat.zero_add]; exact fx_set (by omega))
    rw [hlen] at this
    exact this
  · have h := of_decide_eq_false h
    rw [if_neg h, List.find?_eq_none] at hfd
    have hno : ∀ j, j < l.length → cmpF (l.getD j Fx.nil) x ≠ 0 := fun j hj h0 => by
      exact hfd (l.getD j Fx.nil) (by simp [List.getD, hj]) (decide_eq_true h0)
    refine SafeK.loop (ι := {i : Nat // i ≤ l.length ∧ ∀ j, j < i → cmpF (l.getD j Fx.nil) x < 0}) (fun i => SPl l i.1) (fun _ => HPl l x) (fun i => l.length - i.1) ⟨0, Nat.zero_le _, fun j hj => by omega⟩ 0 ?_ ?_ (by kernel_rfl)
    · exact ⟨by simp [SPl, fxS, eqG_refl], by simp [HPl, eqG_refl], by kernel_rfl, Nat.zero_le _⟩
    · rintro ⟨i, hil, hib⟩
      refine SafeK.run (k := inside K20 0) hmix GPl_ok [0, 2, 4, 8, 10, 29, 30, 31, 32, 33, 34, 35, 36] 400 (T := Tree.side (decide ((↑i : Int) < (↑(List.length l) : Int)) = true → (0 : Int) ≤ (↑i : Int) ∧ (↑i : Int) < (↑(List.length l) : Int)) (Tree.ex (fun (x_1 : Fx × Fx) => decide ((↑i : Int) < (↑(List.length l) : Int)) = true → eqL [AV.agg [AV.str (Fx.name (List.getD l ((0 : Nat) + Int.toNat (↑i : Int)) Fx.nil)), AV.int IntKind.i64 (Fx.date (List.getD l ((0 : Nat) + Int.toNat (↑i : Int)) Fx.nil)), AV.str (Fx.value (List.getD l ((0 : Nat) + Int.toNat (↑i : Int)) Fx.nil))], AV.agg [AV.str (Fx.name x), AV.int IntKind.i64 (Fx.date x), AV.str (Fx.value x)]] [AV.agg [AV.str (Fx.name (Prod.fst x_1)), AV.int IntKind.i64 (Fx.date (Prod.fst x_1)), AV.str (Fx.value (Prod.fst x_1))], AV.agg [AV.str (Fx.name (Prod.snd x_1)), AV.int IntKind.i64 (Fx.date (Prod.snd x_1)), AV.str (Fx.value (Prod.snd x_1))]] ∧ True) fun (n : Fx × Fx) => Tree.all (fun (x : Int) => decide ((↑i : Int) < (↑(List.length l) : Int)) = true → x = cmpF (Prod.fst n) (Prod.snd n)) fun (n : Int) => Tree.ite (bif decide ((↑i : Int) < (↑(List.length l) : Int)) then decide (n < (0 : Int)) else false) (Tree.side (inR IntKind.i64 ((↑i : Int) + (1 : Int))) (Tree.leaf (Leaf2.back (0 : Nat) [((0 : Nat), AV.sl (List.length l) (3 : Nat) (fxG l)), ((2 : Nat), AV.fn (21 : Nat) [] []), ((4 : Nat), AV.ptr (0 : Nat) (0 : Nat)), ((8 : Nat), AV.osl (1 : Nat) (3 : Nat) (0 : Nat) (List.length l)), ((10 : Nat), AV.int IntKind.i64 ((↑i : Int) + (1 : Int))), ((29 : Nat), AV.undef), ((30 : Nat), AV.undef), ((31 : Nat), AV.undef), ((32 : Nat), AV.undef), ((33 : Nat), AV.undef), ((34 : Nat), AV.undef), ((35 : Nat), AV.undef), ((36 : Nat), AV.undef)] [Blk.box [AV.str (Fx.name x), AV.int IntKind.i64 (Fx.date x), AV.str (Fx.value x)], Blk.arr (List.length l) (3 : Nat) (fxG l)]))) (Tree.ex (fun (x_1 : List Fx × Fx × Nat) => eqL [AV.osl (0 : Nat) (3 : Nat) (0 : Nat) (List.length l), AV.int IntKind.i64 (↑i : Int), AV.osl (1 : Nat) (3 : Nat) (0 : Nat) (1 : Nat)] [AV.osl (0 : Nat) (3 : Nat) (0 : Nat) (List.length (Prod.fst x_1)), AV.int IntKind.i64 (↑(Prod.snd (Prod.snd x_1)) : Int), AV.osl (1 : Nat) (3 : Nat) (0 : Nat) (1 : Nat)] ∧ eqH [Blk.arr (List.length l) (3 : Nat) (fxG l), Blk.arr (1 : Nat) (3 : Nat) (listG (3 : Nat) [AV.str (Fx.name x), AV.int IntKind.i64 (Fx.date x), AV.str (Fx.value x)])] [Blk.arr (List.length (Prod.fst x_1)) (3 : Nat) (fxG (Prod.fst x_1)), Blk.arr (1 : Nat) (3 : Nat) (fxG [Prod.fst (Prod.snd x_1)])] ∧ (2 : Nat) = (2 : Nat) ∧ Prod.snd (Prod.snd x_1) ≤ List.length (Prod.fst x_1) ∧ List.length (Prod.fst x_1) < (1099511627776 : Nat)) fun (n : List Fx × Fx × Nat) => Tree.all (fun (x : Unit) => True) fun (n_1 : Unit) => Tree.leaf (Leaf2.ret [AV.osl (1 : Nat) (3 : Nat) (0 : Nat) (List.length (Prod.fst n) + (1 : Nat)), AV.bool (decide ((↑(List.length l) : Int) < (1000 : Int)))] [Blk.box [AV.str (Fx.name x), AV.int IntKind.i64 (Fx.date x), AV.str (Fx.value x)], Blk.arr (List.length (Prod.fst n) + (1 : Nat)) (3 : Nat) (fxG (List.take (Prod.snd (Prod.snd n)) (Prod.fst n) ++ Prod.fst (Prod.snd n) :: List.drop (Prod.snd (Prod.snd n)) (Prod.fst n))), Blk.dead])))) (by kernel_rfl) ?_
      simp only [Tree.holds, Leafs2, inR, lo, hi, Int.toNat_natCast, Nat.zero_add]
      refine ⟨fun h => by have := of_decide_eq_true h; omega, fun _ => ⟨(l.getD i Fx.nil, x), fun _ => ⟨by simp, trivial⟩, ⟨_, fun _ => rfl⟩, ?_⟩⟩
      intro n hn
      refine ⟨fun h2 => ?_, fun h2 => ?_⟩
      · rw [Bool.cond_eq_ite] at h2
        split at h2
        · rename_i g1
          rw [hn g1] at h2
          have g1 := of_decide_eq_true g1
          have h2 := of_decide_eq_true h2
          refine ⟨by omega, fun _ => ?_⟩
          rw [if_pos trivial]
          refine ⟨⟨i + 1, by omega, fun j hj => ?_⟩, by show l.length - (i + 1) < l.length - i; omega, by simp [SPl, fxS, eqG_refl], by simp [HPl, eqG_refl], by kernel_rfl, Nat.zero_le _⟩
          rcases Nat.lt_or_ge j i with h1 | h1
          · exact hib j h1
          · have : j = i := by omega
            rw [this]; exact h2
        · cases h2
      · have hnot : i < l.length → ¬ cmpF (l.getD i Fx.nil) x < 0 := fun hlt2 => by
          have g1 : decide ((i : Int) < l.length) = true := decide_eq_true (by omega)
          rw [g1, hn g1] at h2
          exact of_decide_eq_false h2
        refine ⟨(l, x, i), ⟨by simp, ⟨⟨rfl, rfl, eqG_refl _ _ _⟩, ⟨rfl, rfl, fun j o hj ho => ?_⟩, trivial⟩, trivial, hil, by show l.length < 2 ^ 40; omega⟩, ⟨(), trivial⟩, fun _ _ => ?_⟩
        · have := Fx.cells_get x hj ho
          simp only [viewG, Nat.zero_add] at this
          rw [this]
          have : j = 0 := by omega
          subst this; rfl
        · have hins := ins_place (x := x) (z := Fx.nil) hno hib hil hnot
          have hlen : (l.take i ++ x :: l.drop i).length = l.length + 1 := by simp; omega
          have := fin _ (decide ((l.length : Int) < 1000)) [.box [.str x.name, .int .i64 x.date, .str x.value], .arr (l.length + 1) 3 (fxG (l.take i ++ x :: l.drop i)), .dead] (fxG (l.take i ++ x :: l.drop i)) hins (by rw [← hins, hlen]; exact decide_eq_decide.2 (by omega)) (.inr rfl) (by rw [hlen]; rfl) (eqG_refl _ _ _)
          rw [hlen] at this
          exact this
def placedCC : Ctr := ctrP true (fun p : List Ch × Ch => [chS p.1, p.2.av, .fn 28 [] []]) (fun p => p.1.length ≤ 1000 ∧ ordB cmpC Ch.nil p.1 = true) (fun p (r : List Ch × Bool) => r = (placeL cmpC p.2 p.1, decide ((placeL cmpC p.2 p.1).length ≤ 1000))) (fun _ r => (.tup [.osl 0 4 0 r.1.length, .bool r.2], [.arr r.1.length 4 (chG r.1)]))
theorem placedC_ok : CtrOK Try.prog 27 placedCC := by
  refine fn_ctrP (fn := Try.f27) (c := Try.f27.body.getD .skip) rfl rfl rfl fun p hp O w0 Q hq => ?_
  obtain ⟨l, x⟩ := p
  obtain ⟨hl, hord⟩ := hp
  replace hq := hq _ rfl
  simp only at hq hl hord
  have hpw := pair_of ordC_k hord
  refine SafeK.run (k := K27) hmix GPl_ok [0, 2, 4, 8, 10, 29, 30, 31, 32, 33, 34, 35, 36] 400 (T := Tree.ex (fun (x : List Ch) => eqL [AV.sl (List.length l) (4 : Nat) (chG l)] [AV.sl (List.length x) (4 : Nat) (chG x)] ∧ List.length x < (1099511627776 : Nat)) fun (n : List Ch) => Tree.all (fun (x : Unit) => True) fun (n_1 : Unit) => Tree.ex (fun (x_1 : List Ch × Ch) => eqL [AV.sl (List.length n) (4 : Nat) (viewG (chG n) (0 : Nat)), AV.agg [AV.str (Ch.party x), AV.str (Ch.name x), AV.int IntKind.i64 (Ch.date x), AV.bool (Ch.first x)], AV.fn (28 : Nat) [] []] [AV.sl (List.length (Prod.fst x_1)) (4 : Nat) (chG (Prod.fst x_1)), AV.agg [AV.str (Ch.party (Prod.snd x_1)), AV.str (Ch.name (Prod.snd x_1)), AV.int IntKind.i64 (Ch.date (Prod.snd x_1)), AV.bool (Ch.first (Prod.snd x_1))], AV.fn (28 : Nat) [] []] ∧ List.length (Prod.fst x_1) < (1099511627776 : Nat)) fun (n_2 : List Ch × Ch) => Tree.all (fun (r : Int) => r = idxB (fun (x : Ch) => decide (cmpC x (Prod.snd n_2) = (0 : Int))) (Prod.fst n_2)) fun (n_3 : Int) => Tree.ite (decide ((0 : Int) ≤ n_3)) (Tree.side ((0 : Int) ≤ n_3 ∧ n_3 < (↑(List.length n) : Int)) (Tree.leaf (Leaf2.ret [AV.osl (1 : Nat) (4 : Nat) (0 : Nat) (List.length n), AV.bool true] [Blk.box [AV.str (Ch.party x), AV.str (Ch.name x), AV.int IntKind.i64 (Ch.date x), AV.bool (Ch.first x)], Blk.arr (List.length n) (4 : Nat) (updG (chG n) ((0 : Nat) + Int.toNat n_3) (0 : Nat) [AV.str (Ch.party x), AV.str (Ch.name x), AV.int IntKind.i64 (Ch.date x), AV.bool (Ch.first x)])]))) (Tree.leaf (Leaf2.loop (Prod.fst (lps K27 (0 : Nat))) (Prod.snd (lps K27 (0 : Nat))) [((0 : Nat), AV.sl (List.length l) (4 : Nat) (chG l)), ((2 : Nat), AV.fn (28 : Nat) [] []), ((4 : Nat), AV.ptr (0 : Nat) (0 : Nat)), ((8 : Nat), AV.osl (1 : Nat) (4 : Nat) (0 : Nat) (List.length n)), ((10 : Nat), AV.int IntKind.i64 (0 : Int)), ((29 : Nat), AV.undef), ((30 : Nat), AV.undef), ((31 : Nat), AV.undef), ((32 : Nat), AV.undef), ((33 : Nat), AV.undef), ((34 : Nat), AV.undef), ((35 : Nat), AV.undef), ((36 : Nat), AV.undef)] [Blk.box [AV.str (Ch.party x), AV.str (Ch.name x), AV.int IntKind.i64 (Ch.date x), AV.bool (Ch.first x)], Blk.arr (List.length n) (4 : Nat) (chG n)]))) (by kernel_rfl) ?_
  simp only [Tree.holds, Leafs2]
  have fin : ∀ (r : List Ch) (b : Bool) (h : Heap) (g : Nat → Nat → AV), r = placeL cmpC x l → b = decide ((placeL cmpC x l).length ≤ 1000) → h.length = 2 ∨ h.length = 3 → h.getD 1 .dead = .arr r.length 4 g → eqG r.length 4 g (chG r) → RetR placedCC 0 Q [.osl 1 4 0 r.length, .bool b] h := by
    intro r b h g hr hb hlen hh hg
    subst hr; subst hb
    refine RetR.outs [1] rfl (by simp; omega) hq (fun _ => ⟨?_, ?_⟩) ?_ ?_ rfl
    · simp [resV, new2, new1, new0, posIn, scalA]
    · simp only [List.mem_cons, List.not_mem_nil, or_false, forall_eq, hh]
      exact newB_ch hg
    · simp [resV, exp2, exp1, exp0, posIn, ren0, eqA2, eqL1]
    · simp only [expH, List.map_cons, List.map_nil, hh, expB]
      exact ⟨⟨rfl, rfl, hg⟩, trivial⟩
  refine ⟨l, ⟨by simp [eqG_refl], by omega⟩, ⟨(), trivial⟩, fun _ _ => ⟨(l, x), ⟨by simp [eqG_view0], by show l.length < 2 ^ 40; omega⟩, ⟨_, rfl⟩, ?_⟩⟩
  rintro _ rfl
  obtain ⟨hlt, hfd⟩ := idxB_find (p := fun y => decide (cmpC y x = 0)) Ch.nil l
  refine ⟨fun h => ?_, fun h => ?_⟩
  · have h := of_decide_eq_true h
    rw [if_pos h] at hfd
    simp only at h hlt ⊢
    have hk := List.find?_some hfd
    have hk : cmpC (l.getD (idxB (fun y => decide (cmpC y x = 0)) l).toNat Ch.nil) x = 0 := of_decide_eq_true hk
    have hsp := set_place ordC_k (x := x) (z := Ch.nil) hpw (show (idxB (fun y => decide (cmpC y x = 0)) l).toNat < l.length by omega) hk
    refine ⟨⟨h, hlt⟩, fun _ => ?_⟩
    have hlen : (l.set (idxB (fun y => decide (cmpC y x = 0)) l).toNat x).length = l.length := List.length_set
    have := fin _ true _ (updG (chG l) (0 + (idxB (fun y => decide (cmpC y x = 0)) l).toNat) 0 [.str x.party, .str x.name, .int .i64 x.date, .bool x.first]) hsp (by rw [← hsp, hlen]; exact (decide_eq_true hl).symm) (.inl (rfl : ([.box [.str x.party, .str x.name, .int .i64 x.date, .bool x.first], .arr l.length 4 (updG (chG l) (0 + (idxB (fun y => decide (cmpC y x = 0)) l).toNat) 0 [.str x.party, .str x.name, .int .i64 x.date, .bool x.first])] : Heap).length = 2)) (by rw [hlen]; rfl) (by rw [hlen, Nat.zero_add]; exact ch_set (by omega))
    rw [hlen] at this
    exact this
  · have h := of_decide_eq_false h
    rw [if_neg h, List.find?_eq_none] at hfd
    have hno : ∀ j, j < l.length → cmpC (l.getD j Ch.nil) x ≠ 0 := fun j hj h0 => by
      exact hfd (l.getD j Ch.nil) (by simp [List.getD, hj]) (decide_eq_true h0)
    refine SafeK.loop (ι := {i : Nat // i ≤ l.length ∧ ∀ j, j < i → cmpC (l.getD j Ch.nil) x < 0}) (fun i => SQl l i.1) (fun _ => HQl l x) (fun i => l.length - i.1) ⟨0, Nat.zero_le _, fun j hj => by omega⟩ 0 ?_ ?_ (by kernel_rfl)
    · exact ⟨by simp [SQl, chS, eqG_refl], by simp [HQl, eqG_refl], by kernel_rfl, Nat.zero_le _⟩
    · rintro ⟨i, hil, hib⟩
      refine SafeK.run (k := inside K27 0) hmix GPl_ok [0, 2, 4, 8, 10, 29, 30, 31, 32, 33, 34, 35, 36] 400 (T := Tree.side (decide ((↑i : Int) < (↑(List.length l) : Int)) = true → (0 : Int) ≤ (↑i : Int) ∧ (↑i : Int) < (↑(List.length l) : Int)) (Tree.ex (fun (x_1 : Ch × Ch) => decide ((↑i : Int) < (↑(List.length l) : Int)) = true → eqL [AV.agg [AV.str (Ch.party (List.getD l ((0 : Nat) + Int.toNat (↑i : Int)) Ch.nil)), AV.str (Ch.name (List.getD l ((0 : Nat) + Int.toNat (↑i : Int)) Ch.nil)), AV.int IntKind.i64 (Ch.date (List.getD l ((0 : Nat) + Int.toNat (↑i : Int)) Ch.nil)), AV.bool (Ch.first (List.getD l ((0 : Nat) + Int.toNat (↑i : Int)) Ch.nil))], AV.agg [AV.str (Ch.party x), AV.str (Ch.name x), AV.int IntKind.i64 (Ch.date x), AV.bool (Ch.first x)]] [AV.agg [AV.str (Ch.party (Prod.fst x_1)), AV.str (Ch.name (Prod.fst x_1)), AV.int IntKind.i64 (Ch.date (Prod.fst x_1)), AV.bool (Ch.first (Prod.fst x_1))], AV.agg [AV.str (Ch.party (Prod.snd x_1)), AV.str (Ch.name (Prod.snd x_1)), AV.int IntKind.i64 (Ch.date (Prod.snd x_1)), AV.bool (Ch.first (Prod.snd x_1))]] ∧ True) fun (n : Ch × Ch) => Tree.all (fun (x : Int) => decide ((↑i : Int) < (↑(List.length l) : Int)) = true → x = cmpC (Prod.fst n) (Prod.snd n)) fun (n : Int) => Tree.ite (bif decide ((↑i : Int) < (↑(List.length l) : Int)) then decide (n < (0 : Int)) else false) (Tree.side (inR IntKind.i64 ((↑i : Int) + (1 : Int))) (Tree.leaf (Leaf2.back (0 : Nat) [((0 : Nat), AV.sl (List.length l) (4 : Nat) (chG l)), ((2 : Nat), AV.fn (28 : Nat) [] []), ((4 : Nat), AV.ptr (0 : Nat) (0 : Nat)), ((8 : Nat), AV.osl (1 : Nat) (4 : Nat) (0 : Nat) (List.length l)), ((10 : Nat), AV.int IntKind.i64 ((↑i : Int) + (1 : Int))), ((29 : Nat), AV.undef), ((30 : Nat), AV.undef), ((31 : Nat), AV.undef), ((32 : Nat), AV.undef), ((33 : Nat), AV.undef), ((34 : Nat), AV.undef), ((35 : Nat), AV.undef), ((36 : Nat), AV.undef)] [Blk.box [AV.str (Ch.party x), AV.str (Ch.name x), AV.int IntKind.i64 (Ch.date x), AV.bool (Ch.first x)], Blk.arr (List.length l) (4 : Nat) (chG l)]))) (Tree.ex (fun (x_1 : List Ch × Ch × Nat) => eqL [AV.osl (0 : Nat) (4 : Nat) (0 : Nat) (List.length l), AV.int IntKind.i64 (↑i : Int), AV.osl (1 : Nat) (4 : Nat) (0 : Nat) (1 : Nat)] [AV.osl (0 : Nat) (4 : Nat) (0 : Nat) (List.length (Prod.fst x_1)), AV.int IntKind.i64 (↑(Prod.snd (Prod.snd x_1)) : Int), AV.osl (1 : Nat) (4 : Nat) (0 : Nat) (1 : Nat)] ∧ eqH [Blk.arr (List.length l) (4 : Nat) (chG l), Blk.arr (1 : Nat) (4 : Nat) (listG (4 : Nat) [AV.str (Ch.party x), AV.str (Ch.name x), AV.int IntKind.i64 (Ch.date x), AV.bool (Ch.first x)])] [Blk.arr (List.length (Prod.fst x_1)) (4 : Nat) (chG (Prod.fst x_1)), Blk.arr (1 : Nat) (4 : Nat) (chG [Prod.fst (Prod.snd x_1)])] ∧ (2 : Nat) = (2 : Nat) ∧ Prod.snd (Prod.snd x_1) ≤ List.length (Prod.fst x_1) ∧ List.length (Prod.fst x_1) < (1099511627776 : Nat)) fun (n : List Ch × Ch × Nat) => Tree.all (fun (x : Unit) => True) fun (n_1 : Unit) => Tree.leaf (Leaf2.ret [AV.osl (1 : Nat) (4 : Nat) (0 : Nat) (List.length (Prod.fst n) + (1 : Nat)), AV.bool (decide ((↑(List.length l) : Int) < (1000 : Int)))] [Blk.box [AV.str (Ch.party x), AV.str (Ch.name x), AV.int IntKind.i64 (Ch.date x), AV.bool (Ch.first x)], Blk.arr (List.length (Prod.fst n) + (1 : Nat)) (4 : Nat) (chG (List.take (Prod.snd (Prod.snd n)) (Prod.fst n) ++ Prod.fst (Prod.snd n) :: List.drop (Prod.snd (Prod.snd n)) (Prod.fst n))), Blk.dead])))) (by kernel_rfl) ?_
      simp only [Tree.holds, Leafs2, inR, lo, hi, Int.toNat_natCast, Nat.zero_add]
      refine ⟨fun h => by have := of_decide_eq_true h; omega, fun _ => ⟨(l.getD i Ch.nil, x), fun _ => ⟨by simp, trivial⟩, ⟨_, fun _ => rfl⟩, ?_⟩⟩
      intro n hn
      refine ⟨fun h2 => ?_, fun h2 => ?_⟩
      · rw [Bool.cond_eq_ite] at h2
        split at h2
        · rename_i g1
          rw [hn g1] at h2
          have g1 := of_decide_eq_true g1
          have h2 := of_decide_eq_true h2
          refine ⟨by omega, fun _ => ?_⟩
          rw [if_pos trivial]
          refine ⟨⟨i + 1, by omega, fun j hj => ?_⟩, by show l.length - (i + 1) < l.length - i; omega, by simp [SQl, chS, eqG_refl], by simp [HQl, eqG_refl], by kernel_rfl, Nat.zero_le _⟩
          rcases Nat.lt_or_ge j i with h1 | h1
          · exact hib j h1
          · have : j = i := by omega
            rw [this]; exact h2
        · cases h2
      · have hnot : i < l.length → ¬ cmpC (l.getD i Ch.nil) x < 0 := fun hlt2 => by
          have g1 : decide ((i : Int) < l.length) = true := decide_eq_true (by omega)
          rw [g1, hn g1] at h2
          exact of_decide_eq_false h2
        refine ⟨(l, x, i), ⟨by simp, ⟨⟨rfl, rfl, eqG_refl _ _ _⟩, ⟨rfl, rfl, fun j o hj ho => ?_⟩, trivial⟩, trivial, hil, by show l.length < 2 ^ 40; omega⟩, ⟨(), trivial⟩, fun _ _ => ?_⟩
        · have := Ch.cells_get x hj ho
          simp only [viewG, Nat.zero_add] at this
          rw [this]
          have : j = 0 := by omega
          subst this; rfl
        · have hins := ins_place (x := x) (z := Ch.nil) hno hib hil hnot
          have hlen : (l.take i ++ x :: l.drop i).length = l.length + 1 := by simp; omega
          have := fin _ (decide ((l.length : Int) < 1000)) [.box [.str x.party, .str x.name, .int .i64 x.date, .bool x.first], .arr (l.length + 1) 4 (chG (l.take i ++ x :: l.drop i)), .dead] (chG (l.take i ++ x :: l.drop i)) hins (by rw [← hins, hlen]; exact decide_eq_decide.2 (by omega)) (.inr rfl) (by rw [hlen]; rfl) (eqG_refl _ _ _)
          rw [hlen] at this
          exact this
def GPu : Nat → Option Ctr := fun f => if f = 12 then some checkEC else if f = 17 then some nameC else if f = 18 then some withinC else if f = 19 then some qcheckC else if f = 20 then some placedFC else if f = 27 then some placedCC else if f = 29 then some cloneFC else if f = 22 then some cloneCC else none
theorem GPu_ok : ∀ g c, GPu g = some c → CtrOK Try.prog g c := by
  intro g c h
  simp only [GPu] at h
  split at h
  · rename_i hg; subst hg; cases h; exact checkE_ok
  split at h
  · rename_i hg; subst hg; cases h; exact name_ok
  split at h
  · rename_i hg; subst hg; cases h; exact within_ok
  split at h
  · rename_i hg; subst hg; cases h; exact qcheck_ok
  split at h
  · rename_i hg; subst hg; cases h; exact placedF_ok
  split at h
  · rename_i hg; subst hg; cases h; exact placedC_ok
  split at h
  · rename_i hg; subst hg; cases h; exact cloneF_ok
  split at h
  · rename_i hg; subst hg; cases h; exact cloneC_ok
  cases h

def outP (r : (List Fx × List Ch) × Int) : AV × Heap := (.tup [.agg [.osl 0 3 0 r.1.1.length, .osl 1 4 0 r.1.2.length], .int .i64 r.2], [.arr r.1.1.length 3 (fxG r.1.1), .arr r.1.2.length 4 (chG r.1.2)])
def iputC : Ctr := ctrP true (fun p : (List Fx × List Ch) × Fx => [envA p.1.1 p.1.2, p.2.av]) (fun p => envP p.1 ∧ smallF p.2) (fun p r => r = putF p.1.1 p.1.2 p.2) (fun _ (r : (List Fx × List Ch) × Int) => (.tup [.agg [.osl 0 3 0 r.1.1.length, .osl 1 4 0 r.1.2.length], .int .i64 r.2], [.arr r.1.1.length 3 (fxG r.1.1), .arr r.1.2.length 4 (chG r.1.2)]))
def ichoC : Ctr := ctrP true (fun p : (List Fx × List Ch) × Ch => [envA p.1.1 p.1.2, p.2.av]) (fun p => envP p.1 ∧ smallC p.2) (fun p r => r = putC p.1.1 p.1.2 p.2) (fun _ (r : (List Fx × List Ch) × Int) => (.tup [.agg [.osl 0 3 0 r.1.1.length, .osl 1 4 0 r.1.2.length], .int .i64 r.2], [.arr r.1.1.length 3 (fxG r.1.1), .arr r.1.2.length 4 (chG r.1.2)]))
theorem bad_out {ctr : Ctr} {Q : AV × Heap → Prop} (e : Int) (h : Heap) (hq : Q (.tup [.agg [.osl 0 3 0 ([] : List Fx).length, .osl 1 4 0 ([] : List Ch).length], .int .i64 e], [.arr ([] : List Fx).length 3 (fxG []), .arr ([] : List Ch).length 4 (chG [])])) : RetR ctr 0 (upQ Q) [.agg [.nils, .nils], .int .i64 e] h := by
  refine RetR.out0 (r := .tup [.agg [.nils, .nils], .int .i64 e]) (.inr ⟨_, [(3, fxG []), (4, chG [])], ?_, hq⟩) (fun _ => by simp [resV, new2, new1, new0, scalA]) (by simp [resV, exp2, exp1, exp0, ren0, eqA2, eqL1])
  simp [upA2, upA1, upA0, upL1, upL0]
theorem iput_ok : CtrOK Try.prog 6 iputC := by
  refine fn_ctrPN (fn := Try.f6) (c := Try.f6.body.getD .skip) rfl rfl rfl fun p hp O w0 Q hq => ?_
  obtain ⟨⟨f, c⟩, ⟨a, d, v⟩⟩ := p
  obtain ⟨he, hs1, hs2⟩ := hp
  replace hq := hq _ rfl
  simp only at hq he hs1 hs2
  refine SafeK.run (k := K6) hmix GPu_ok [] 400 (T := Tree.ex (fun (x : List Fx × List Ch) => eqL [AV.agg [AV.sl (List.length f) (3 : Nat) (fxG f), AV.sl (List.length c) (4 : Nat) (chG c)]] [AV.agg [AV.sl (List.length (Prod.fst x)) (3 : Nat) (fxG (Prod.fst x)), AV.sl (List.length (Prod.snd x)) (4 : Nat) (chG (Prod.snd x))]] ∧ envP x) fun (n : List Fx × List Ch) => Tree.all (fun (r : Int) => r = errE (Prod.fst n) (Prod.snd n)) fun (n : Int) => Tree.ite (!decide (n = (0 : Int))) (Tree.leaf (Leaf2.ret [AV.agg [AV.nils, AV.nils], AV.int IntKind.i64 n] [Blk.box [AV.sl (List.length f) (3 : Nat) (fxG f), AV.sl (List.length c) (4 : Nat) (chG c)], Blk.box [AV.str a, AV.int IntKind.i64 d, AV.str v], Blk.box [AV.nils, AV.nils]])) (Tree.ex (fun (x : List UInt8) => eqL [AV.str a] [AV.str x] ∧ List.length x < (4611686018427387904 : Nat)) fun (n : List UInt8) => Tree.all (fun (r : Bool) => r = nameB n) fun (n : Bool) => Tree.ex (fun (x : Int) => (!n) = false → eqL [AV.int IntKind.i64 d] [AV.int IntKind.i64 x] ∧ True) fun (n_1 : Int) => Tree.all (fun (x : Bool) => (!n) = false → x = dayB n_1) fun (n_2 : Bool) => Tree.ite (bif !n then true else !n_2) (Tree.leaf (Leaf2.ret [AV.agg [AV.nils, AV.nils], AV.int IntKind.i64 (2 : Int)] [Blk.box [AV.sl (List.length f) (3 : Nat) (fxG f), AV.sl (List.length c) (4 : Nat) (chG c)], Blk.box [AV.str a, AV.int IntKind.i64 d, AV.str v], Blk.box [AV.nils, AV.nils]])) (Tree.ex (fun (x : List UInt8) => eqL [AV.str v] [AV.str x] ∧ List.length x < (4611686018427387904 : Nat)) fun (n : List UInt8) => Tree.all (fun (r : Int) => r = errR n) fun (n : Int) => Tree.ite (!decide (n = (0 : Int))) (Tree.leaf (Leaf2.ret [AV.agg [AV.nils, AV.nils], AV.int IntKind.i64 n] [Blk.box [AV.sl (List.length f) (3 : Nat) (fxG f), AV.sl (List.length c) (4 : Nat) (chG c)], Blk.box [AV.str a, AV.int IntKind.i64 d, AV.str v], Blk.box [AV.nils, AV.nils]])) (Tree.ex (fun (x : List Fx × Fx) => eqL [AV.sl (List.length f) (3 : Nat) (fxG f), AV.agg [AV.str a, AV.int IntKind.i64 d, AV.str v], AV.fn (21 : Nat) [] []] [AV.sl (List.length (Prod.fst x)) (3 : Nat) (fxG (Prod.fst x)), AV.agg [AV.str (Fx.name (Prod.snd x)), AV.int IntKind.i64 (Fx.date (Prod.snd x)), AV.str (Fx.value (Prod.snd x))], AV.fn (21 : Nat) [] []] ∧ List.length (Prod.fst x) ≤ (1000 : Nat) ∧ ordB cmpF Fx.nil (Prod.fst x) = true) fun (n : List Fx × Fx) => Tree.all (fun (r : List Fx × Bool) => r = (placeL cmpF (Prod.snd n) (Prod.fst n), decide (List.length (placeL cmpF (Prod.snd n) (Prod.fst n)) ≤ (1000 : Nat)))) fun (n : List Fx × Bool) => Tree.ite (!Prod.snd n) (Tree.leaf (Leaf2.ret [AV.agg [AV.nils, AV.nils], AV.int IntKind.i64 (22 : Int)] [Blk.box [AV.sl (List.length f) (3 : Nat) (fxG f), AV.sl (List.length c) (4 : Nat) (chG c)], Blk.box [AV.str a, AV.int IntKind.i64 d, AV.str v], Blk.box [AV.nils, AV.nils], Blk.arr (List.length (Prod.fst n)) (3 : Nat) (fxG (Prod.fst n))])) (Tree.ex (fun (x : List Ch) => eqL [AV.sl (List.length c) (4 : Nat) (chG c)] [AV.sl (List.length x) (4 : Nat) (chG x)] ∧ List.length x < (1099511627776 : Nat)) fun (n_3 : List Ch) => Tree.all (fun (x : Unit) => True) fun (n_4 : Unit) => Tree.leaf (Leaf2.ret [AV.agg [AV.osl (3 : Nat) (3 : Nat) (0 : Nat) (List.length (Prod.fst n)), AV.osl (4 : Nat) (4 : Nat) (0 : Nat) (List.length n_3)], AV.int IntKind.i64 (0 : Int)] [Blk.box [AV.sl (List.length f) (3 : Nat) (fxG f), AV.sl (List.length c) (4 : Nat) (chG c)], Blk.box [AV.str a, AV.int IntKind.i64 d, AV.str v], Blk.box [AV.osl (3 : Nat) (3 : Nat) (0 : Nat) (List.length (Prod.fst n)), AV.osl (4 : Nat) (4 : Nat) (0 : Nat) (List.length n_3)], Blk.arr (List.length (Prod.fst n)) (3 : Nat) (fxG (Prod.fst n)), Blk.arr (List.length n_3) (4 : Nat) (chG n_3)])))))) (by kernel_rfl) ?_
  simp only [Tree.holds, Leafs2]
  have bad : ∀ (e : Int) (h : Heap), putF f c ⟨a, d, v⟩ = (([], []), e) → RetR iputC 0 (upQ Q) [.agg [.nils, .nils], .int .i64 e] h := fun e h hr => by
    rw [hr] at hq
    exact bad_out e h hq
  refine ⟨(f, c), ⟨by simp [eqG_refl], he⟩, ⟨_, rfl⟩, ?_⟩
  rintro _ rfl
  refine ⟨fun h => ?_, fun h => ?_⟩
  · have h : errE f c ≠ 0 := by simpa using h
    exact bad _ _ (by simp [putF, h])
  · have h : errE f c = 0 := by simpa using h
    refine ⟨a, ⟨by simp, by omega⟩, ⟨_, rfl⟩, ?_⟩
    rintro _ rfl
    refine ⟨d, fun _ => ⟨by simp, trivial⟩, ⟨_, fun _ => rfl⟩, ?_⟩
    intro b1 g1
    have key : (bif !nameB a then true else !b1) = !(nameB a && dayB d) := by
      cases hn : nameB a with
      | false => rfl
      | true => rw [g1 (by rw [hn]; rfl)]; rfl
    rw [key]
    refine ⟨fun h2 => ?_, fun h2 => ?_⟩
    · exact bad _ _ (by simp only [putF]; rw [if_neg (by simp [h]), if_pos (by simpa only [Bool.not_eq_true'] using h2)])
    · have h2 : ¬ (nameB a && dayB d) = false := by simpa using h2
      refine ⟨v, ⟨by simp, by omega⟩, ⟨_, rfl⟩, ?_⟩
      rintro _ rfl
      refine ⟨fun h3 => ?_, fun h3 => ?_⟩
      · have h3 : errR v ≠ 0 := by simpa using h3
        exact bad _ _ (by simp only [putF]; rw [if_neg (by simp [h]), if_neg h2, if_pos h3])
      · have h3 : ¬ errR v ≠ 0 := by simpa using h3
        obtain ⟨hb, _, _, ho, _⟩ := errE_0.1 h
        refine ⟨(f, ⟨a, d, v⟩), ⟨by simp [eqG_refl], by show f.length ≤ 1000; omega, ho⟩, ⟨_, rfl⟩, ?_⟩
        rintro _ rfl
        refine ⟨fun h4 => ?_, fun h4 => ?_⟩
        · have h4 : 1000 < (placeL cmpF ⟨a, d, v⟩ f).length := by simpa using h4
          exact bad _ _ (by simp only [putF]; rw [if_neg (by simp [h]), if_neg h2, if_neg h3, if_pos h4])
        · have h4 : ¬ 1000 < (placeL cmpF ⟨a, d, v⟩ f).length := by simpa using h4
          have hr : putF f c ⟨a, d, v⟩ = ((placeL cmpF ⟨a, d, v⟩ f, c), 0) := by simp only [putF]; rw [if_neg (by simp [h]), if_neg h2, if_neg h3, if_neg h4]
          rw [hr] at hq
          refine ⟨c, ⟨by simp [eqG_refl], by omega⟩, ⟨(), trivial⟩, fun _ _ => ?_⟩
          refine RetR.outs [3, 4] rfl rfl (.inl hq) (fun _ => ⟨?_, ?_⟩) ?_ ?_ rfl
          · simp [resV, new2, new1, new0, posIn, scalA]
          · simp only [List.mem_cons, List.not_mem_nil, or_false, forall_eq_or_imp, forall_eq]
            exact ⟨newB_fx (eqG_refl _ _ _), newB_ch (eqG_refl _ _ _)⟩
          · simp [resV, exp2, exp1, exp0, posIn, ren0, eqA2, eqL1]
          · exact ⟨⟨rfl, rfl, eqG_refl _ _ _⟩, ⟨rfl, rfl, eqG_refl _ _ _⟩, trivial⟩
theorem icho_ok : CtrOK Try.prog 8 ichoC := by
  refine fn_ctrPN (fn := Try.f8) (c := Try.f8.body.getD .skip) rfl rfl rfl fun p hp O w0 Q hq => ?_
  obtain ⟨⟨f, c⟩, ⟨a, v, d, b⟩⟩ := p
  obtain ⟨he, hs1, hs2⟩ := hp
  replace hq := hq _ rfl
  simp only at hq he hs1 hs2
  refine SafeK.run (k := K8) hmix GPu_ok [] 400 (T := Tree.ex (fun (x : List Fx × List Ch) => eqL [AV.agg [AV.sl (List.length f) (3 : Nat) (fxG f), AV.sl (List.length c) (4 : Nat) (chG c)]] [AV.agg [AV.sl (List.length (Prod.fst x)) (3 : Nat) (fxG (Prod.fst x)), AV.sl (List.length (Prod.snd x)) (4 : Nat) (chG (Prod.snd x))]] ∧ envP x) fun (n : List Fx × List Ch) => Tree.all (fun (r : Int) => r = errE (Prod.fst n) (Prod.snd n)) fun (n : Int) => Tree.ite (!decide (n = (0 : Int))) (Tree.leaf (Leaf2.ret [AV.agg [AV.nils, AV.nils], AV.int IntKind.i64 n] [Blk.box [AV.sl (List.length f) (3 : Nat) (fxG f), AV.sl (List.length c) (4 : Nat) (chG c)], Blk.box [AV.str a, AV.str v, AV.int IntKind.i64 d, AV.bool b], Blk.box [AV.nils, AV.nils]])) (Tree.ex (fun (x : List UInt8) => eqL [AV.str a] [AV.str x] ∧ List.length x < (4611686018427387904 : Nat)) fun (n : List UInt8) => Tree.all (fun (r : Bool) => r = nameB n) fun (n : Bool) => Tree.ex (fun (x : List UInt8) => (!n) = false → eqL [AV.str v] [AV.str x] ∧ List.length x < (4611686018427387904 : Nat)) fun (n_1 : List UInt8) => Tree.all (fun (x : Bool) => (!n) = false → x = nameB n_1) fun (n_2 : Bool) => Tree.ex (fun (x : Int) => (bif !n then true else !n_2) = false → eqL [AV.int IntKind.i64 d] [AV.int IntKind.i64 x] ∧ True) fun (n_3 : Int) => Tree.all (fun (x : Bool) => (bif !n then true else !n_2) = false → x = dayB n_3) fun (n_4 : Bool) => Tree.ite (bif bif !n then true else !n_2 then true else !n_4) (Tree.leaf (Leaf2.ret [AV.agg [AV.nils, AV.nils], AV.int IntKind.i64 (2 : Int)] [Blk.box [AV.sl (List.length f) (3 : Nat) (fxG f), AV.sl (List.length c) (4 : Nat) (chG c)], Blk.box [AV.str a, AV.str v, AV.int IntKind.i64 d, AV.bool b], Blk.box [AV.nils, AV.nils]])) (Tree.ex (fun (x : List Ch × Ch) => eqL [AV.sl (List.length c) (4 : Nat) (chG c), AV.agg [AV.str a, AV.str v, AV.int IntKind.i64 d, AV.bool b], AV.fn (28 : Nat) [] []] [AV.sl (List.length (Prod.fst x)) (4 : Nat) (chG (Prod.fst x)), AV.agg [AV.str (Ch.party (Prod.snd x)), AV.str (Ch.name (Prod.snd x)), AV.int IntKind.i64 (Ch.date (Prod.snd x)), AV.bool (Ch.first (Prod.snd x))], AV.fn (28 : Nat) [] []] ∧ List.length (Prod.fst x) ≤ (1000 : Nat) ∧ ordB cmpC Ch.nil (Prod.fst x) = true) fun (n : List Ch × Ch) => Tree.all (fun (r : List Ch × Bool) => r = (placeL cmpC (Prod.snd n) (Prod.fst n), decide (List.length (placeL cmpC (Prod.snd n) (Prod.fst n)) ≤ (1000 : Nat)))) fun (n : List Ch × Bool) => Tree.ite (!Prod.snd n) (Tree.leaf (Leaf2.ret [AV.agg [AV.nils, AV.nils], AV.int IntKind.i64 (22 : Int)] [Blk.box [AV.sl (List.length f) (3 : Nat) (fxG f), AV.sl (List.length c) (4 : Nat) (chG c)], Blk.box [AV.str a, AV.str v, AV.int IntKind.i64 d, AV.bool b], Blk.box [AV.nils, AV.nils], Blk.arr (List.length (Prod.fst n)) (4 : Nat) (chG (Prod.fst n))])) (Tree.ex (fun (x : List Fx) => eqL [AV.sl (List.length f) (3 : Nat) (fxG f)] [AV.sl (List.length x) (3 : Nat) (fxG x)] ∧ List.length x < (1099511627776 : Nat)) fun (n_5 : List Fx) => Tree.all (fun (x : Unit) => True) fun (n_6 : Unit) => Tree.leaf (Leaf2.ret [AV.agg [AV.osl (4 : Nat) (3 : Nat) (0 : Nat) (List.length n_5), AV.osl (3 : Nat) (4 : Nat) (0 : Nat) (List.length (Prod.fst n))], AV.int IntKind.i64 (0 : Int)] [Blk.box [AV.sl (List.length f) (3 : Nat) (fxG f), AV.sl (List.length c) (4 : Nat) (chG c)], Blk.box [AV.str a, AV.str v, AV.int IntKind.i64 d, AV.bool b], Blk.box [AV.osl (4 : Nat) (3 : Nat) (0 : Nat) (List.length n_5), AV.osl (3 : Nat) (4 : Nat) (0 : Nat) (List.length (Prod.fst n))], Blk.arr (List.length (Prod.fst n)) (4 : Nat) (chG (Prod.fst n)), Blk.arr (List.length n_5) (3 : Nat) (fxG n_5)]))))) (by kernel_rfl) ?_
  simp only [Tree.holds, Leafs2]
  have bad : ∀ (e : Int) (h : Heap), putC f c ⟨a, v, d, b⟩ = (([], []), e) → RetR ichoC 0 (upQ Q) [.agg [.nils, .nils], .int .i64 e] h := fun e h hr => by
    rw [hr] at hq
    exact bad_out e h hq
  refine ⟨(f, c), ⟨by simp [eqG_refl], he⟩, ⟨_, rfl⟩, ?_⟩
  rintro _ rfl
  refine ⟨fun h => ?_, fun h => ?_⟩
  · have h : errE f c ≠ 0 := by simpa using h
    exact bad _ _ (by simp [putC, h])
  · have h : errE f c = 0 := by simpa using h
    refine ⟨a, ⟨by simp, by omega⟩, ⟨_, rfl⟩, ?_⟩
    rintro _ rfl
    refine ⟨v, fun _ => ⟨by simp, by omega⟩, ⟨_, fun _ => rfl⟩, ?_⟩
    intro b1 g1
    refine ⟨d, fun _ => ⟨by simp, trivial⟩, ⟨_, fun _ => rfl⟩, ?_⟩
    intro b2 g2
    have key : (bif bif !nameB a then true else !b1 then true else !b2) = !okC ⟨a, v, d, b⟩ := by
      simp only [okC]
      cases hn : nameB a with
      | false => rfl
      | true =>
        have g1 := g1 (by rw [hn]; rfl)
        subst g1
        cases hv : nameB v with
        | false => rfl
        | true => rw [g2 (by rw [hn, hv]; rfl)]; rfl
    rw [key]
    refine ⟨fun h2 => ?_, fun h2 => ?_⟩
    · exact bad _ _ (by simp only [putC]; rw [if_neg (by simp [h]), if_pos (by simpa only [Bool.not_eq_true'] using h2)])
    · have h2 : ¬ okC ⟨a, v, d, b⟩ = false := by simpa using h2
      obtain ⟨hb, _, _, _, ho⟩ := errE_0.1 h
      refine ⟨(c, ⟨a, v, d, b⟩), ⟨by simp [eqG_refl], by show c.length ≤ 1000; omega, ho⟩, ⟨_, rfl⟩, ?_⟩
      rintro _ rfl
      refine ⟨fun h4 => ?_, fun h4 => ?_⟩
      · have h4 : 1000 < (placeL cmpC ⟨a, v, d, b⟩ c).length := by simpa using h4
        exact bad _ _ (by simp only [putC]; rw [if_neg (by simp [h]), if_neg h2, if_pos h4])
      · have h4 : ¬ 1000 < (placeL cmpC ⟨a, v, d, b⟩ c).length := by simpa using h4
        have hr : putC f c ⟨a, v, d, b⟩ = ((f, placeL cmpC ⟨a, v, d, b⟩ c), 0) := by simp only [putC]; rw [if_neg (by simp [h]), if_neg h2, if_neg h4]
        rw [hr] at hq
        refine ⟨f, ⟨by simp [eqG_refl], by omega⟩, ⟨(), trivial⟩, fun _ _ => ?_⟩
        refine RetR.outs [4, 3] rfl rfl (.inl hq) (fun _ => ⟨?_, ?_⟩) ?_ ?_ rfl
        · simp [resV, new2, new1, new0, posIn, scalA]
        · simp only [List.mem_cons, List.not_mem_nil, or_false, forall_eq_or_imp, forall_eq]
          exact ⟨newB_fx (eqG_refl _ _ _), newB_ch (eqG_refl _ _ _)⟩
        · simp [resV, exp2, exp1, exp0, posIn, ren0, eqA2, eqL1]
        · exact ⟨⟨rfl, rfl, eqG_refl _ _ _⟩, ⟨rfl, rfl, eqG_refl _ _ _⟩, trivial⟩
end Go.Proofs.Try
end

/- The law: what is known. -/
section
set_option linter.unusedVariables false
set_option linter.unusedSimpArgs false
set_option maxRecDepth 100000
open Go Go.Sx Go.Proofs Go.Nov
namespace Go.Proofs.Try
attribute [local simp] eqKV eqA eqA0 eqH eqB eqL eqL0
noncomputable def K3 : List Go.Sx.Item := [.code (Try.f3.body.getD .skip)]
def GLw : Nat → Option Ctr := fun f => if f = 4 then some greatC else if f = 5 then some twinC else if f = 6 then some iputC else if f = 7 then some rputC else if f = 8 then some ichoC else if f = 9 then some rchoC else if f = 10 then some findC else if f = 11 then some findC else if f = 12 then some checkEC else if f = 13 then some checkEC else if f = 14 then some sameEC else if f = 15 then some chosenC else if f = 16 then some chosenC else none
theorem GLw_ok : ∀ g c, GLw g = some c → CtrOK Try.prog g c := by
  intro g c h
  unfold GLw at h
  by_cases hg : g = 4
  · subst hg
    rw [if_pos rfl] at h
    cases h
    exact great_ok
  rw [if_neg hg] at h
  clear hg
  by_cases hg : g = 5
  · subst hg
    rw [if_pos rfl] at h
    cases h
    exact twin_ok
  rw [if_neg hg] at h
  clear hg
  by_cases hg : g = 6
  · subst hg
    rw [if_pos rfl] at h
    cases h
    exact iput_ok
  rw [if_neg hg] at h
  clear hg
  by_cases hg : g = 7
  · subst hg
    rw [if_pos rfl] at h
    cases h
    exact rput_ok
  rw [if_neg hg] at h
  clear hg
  by_cases hg : g = 8
  · subst hg
    rw [if_pos rfl] at h
    cases h
    exact icho_ok
  rw [if_neg hg] at h
  clear hg
  by_cases hg : g = 9
  · subst hg
    rw [if_pos rfl] at h
    cases h
    exact rcho_ok
  rw [if_neg hg] at h
  clear hg
  by_cases hg : g = 10
  · subst hg
    rw [if_pos rfl] at h
    cases h
    exact find_ok
  rw [if_neg hg] at h
  clear hg
  by_cases hg : g = 11
  · subst hg
    rw [if_pos rfl] at h
    cases h
    exact rfind_ok
  rw [if_neg hg] at h
  clear hg
  by_cases hg : g = 12
  · subst hg
    rw [if_pos rfl] at h
    cases h
    exact checkE_ok
  rw [if_neg hg] at h
  clear hg
  by_cases hg : g = 13
  · subst hg
    rw [if_pos rfl] at h
    cases h
    exact checkEr_ok
  rw [if_neg hg] at h
  clear hg
  by_cases hg : g = 14
  · subst hg
    rw [if_pos rfl] at h
    cases h
    exact sameE_ok
  rw [if_neg hg] at h
  clear hg
  by_cases hg : g = 15
  · subst hg
    rw [if_pos rfl] at h
    cases h
    exact chosen_ok
  rw [if_neg hg] at h
  clear hg
  by_cases hg : g = 16
  · subst hg
    rw [if_pos rfl] at h
    cases h
    exact rchosen_ok
  rw [if_neg hg] at h
  clear hg
  cases h

def SLw (i : Nat) : KV := [(3, .ptr 0 0), (7, .ptr 5 0), (20, .bool true), (22, .undef), (23, .undef), (24, .undef), (152, .osl 14 2 0 2), (153, .int .i64 2), (154, .int .i64 (i : Int)), (185, .undef), (186, .undef), (187, .undef)]
def HLw (f : List Fx) (c : List Ch) (n6 n7 n10 n11 : Nat) (g6 g7 g10 g11 : Nat → Nat → AV) : Heap := [.box [fxS f, chS c], .dead, .dead, .arr f.length 3 (fxG f), .arr c.length 4 (chG c), .box [.osl 3 3 0 f.length, .osl 4 4 0 c.length], .arr n6 3 g6, .arr n7 4 g7, .dead, .dead, .arr n10 3 g10, .arr n11 4 g11, .dead, .dead, .box [.osl 6 3 0 n6, .osl 7 4 0 n7, .osl 10 3 0 n10, .osl 11 4 0 n11]]
def lawC : Ctr := ctrP true (fun p : (List Fx × List Ch) × Fx × Ch => [envA p.1.1 p.1.2, p.2.1.av, p.2.2.av]) (fun p => p.1.1.length < 2 ^ 60 ∧ p.1.2.length < 2 ^ 60 ∧ (∀ j, j < p.1.1.length → hugeF (p.1.1.getD j Fx.nil)) ∧ ∀ j, j < p.1.2.length → hugeC (p.1.2.getD j Ch.nil)) (fun _ r => r = true) (fun _ (r : Bool) => (.bool r, []))
theorem put_len {f : List Fx} {c : List Ch} {x : Fx} : (putF f c x).1.1.length ≤ 1000 ∧ (putF f c x).1.2.length ≤ 1000 := by
  unfold putF
  by_cases h0 : errE f c ≠ 0
  · rw [if_pos h0]; simp
  · rw [if_neg h0]
    have h := errE_0.1 (Classical.not_not.1 h0)
    split
    · simp
    · split
      · simp
      · split
        · simp
        · simp only; omega
theorem cho_len {f : List Fx} {c : List Ch} {x : Ch} : (putC f c x).1.1.length ≤ 1000 ∧ (putC f c x).1.2.length ≤ 1000 := by
  unfold putC
  by_cases h0 : errE f c ≠ 0
  · rw [if_pos h0]; simp
  · rw [if_neg h0]
    have h := errE_0.1 (Classical.not_not.1 h0)
    split
    · simp
    · split
      · simp
      · simp only; omega
def SLa0 (n : Nat) : KV := [(3, .ptr 0 0), (7, .ptr 5 0), (20, .bool true), (22, .ptr 15 0), (23, .int .i64 (n : Int)), (24, .undef), (152, .osl 14 2 0 2), (153, .int .i64 2), (154, .int .i64 0), (185, .undef), (186, .undef), (187, .undef)]
def SLb0 (n : Nat) : KV := [(3, .ptr 0 0), (7, .ptr 5 0), (20, .bool true), (22, .ptr 15 0), (23, .undef), (24, .int .i64 (n : Int)), (152, .osl 14 2 0 2), (153, .int .i64 2), (154, .int .i64 0), (185, .undef), (186, .undef), (187, .undef)]
def HLz0 (f : List Fx) (c : List Ch) (n6 n7 n10 n11 : Nat) (g6 g7 g10 g11 : Nat → Nat → AV) : Heap := HLw f c n6 n7 n10 n11 g6 g7 g10 g11 ++ [.box [.osl 6 3 0 n6, .osl 7 4 0 n7]]
theorem law_b0 {O : Nat → Prop} {w0 : World} {Q : AV × Heap → Prop} {Hs : Nat → KV → Heap → Prop} (f : List Fx) (c : List Ch) (n6 n7 n10 n11 : Nat) (g6 g7 g10 g11 : Nat → Nat → AV) (hn : n7 < 2 ^ 40)
    (hback : ∀ (g6 g7 g10 g11 : Nat → Nat → AV) (kv : KV) (h : Heap), LeK 0 Try.f3.ntmps kv h (SLw 1) (HLw f c n6 n7 n10 n11 g6 g7 g10 g11) → Hs 0 kv h) (kv : KV) (h : Heap) (hle : LeK 0 Try.f3.ntmps kv h (SLb0 0) (HLz0 f c n6 n7 n10 n11 g6 g7 g10 g11)) :
    SafeK Try.prog Try.f3 O 0 w0 [] Hs (RetR lawC 0 Q) (.code (.loop (lps (inside (inside K3 0) 0) 0).1) :: (lps (inside (inside K3 0) 0) 0).2) (mk Try.f3.ntmps kv h) := by
  refine SafeK.loop (ι := {p : Nat × (Nat → Nat → AV) // p.1 ≤ n7}) (fun p => SLb0 p.1.1) (fun p => HLz0 f c n6 n7 n10 n11 g6 p.1.2 g10 g11) (fun p => n7 - p.1.1) ⟨(0, g7), Nat.zero_le _⟩ 1 hle ?_ (by kernel_rfl)
  rintro ⟨⟨n, g7⟩, hil⟩
  simp only at hil
  refine SafeK.run (k := inside (inside (inside K3 0) 0) 0) hmix GLw_ok [3, 7, 20, 22, 23, 24, 152, 153, 154, 185, 186, 187] 400 (T := Tree.ite (decide ((↑n : Int) < (↑n7 : Int))) (Tree.side ((0 : Int) ≤ (↑n : Int) ∧ (↑n : Int) < (↑n7 : Int)) (Tree.side (inR IntKind.i64 ((↑n : Int) + (1 : Int))) (Tree.leaf (Leaf2.back (1 : Nat) [((3 : Nat), AV.ptr (0 : Nat) (0 : Nat)), ((7 : Nat), AV.ptr (5 : Nat) (0 : Nat)), ((20 : Nat), AV.bool true), ((22 : Nat), AV.ptr (15 : Nat) (0 : Nat)), ((23 : Nat), AV.undef), ((24 : Nat), AV.int IntKind.i64 ((↑n : Int) + (1 : Int))), ((152 : Nat), AV.osl (14 : Nat) (2 : Nat) (0 : Nat) (2 : Nat)), ((153 : Nat), AV.int IntKind.i64 (2 : Int)), ((154 : Nat), AV.int IntKind.i64 (0 : Int)), ((185 : Nat), AV.undef), ((186 : Nat), AV.undef), ((187 : Nat), AV.undef)] [Blk.box [AV.sl (List.length f) (3 : Nat) (fxG f), AV.sl (List.length c) (4 : Nat) (chG c)], Blk.dead, Blk.dead, Blk.arr (List.length f) (3 : Nat) (fxG f), Blk.arr (List.length c) (4 : Nat) (chG c), Blk.box [AV.osl (3 : Nat) (3 : Nat) (0 : Nat) (List.length f), AV.osl (4 : Nat) (4 : Nat) (0 : Nat) (List.length c)], Blk.arr n6 (3 : Nat) g6, Blk.arr n7 (4 : Nat) (updG g7 ((0 : Nat) + Int.toNat (↑n : Int)) (2 : Nat) [AV.int IntKind.i64 (-7 : Int)]), Blk.dead, Blk.dead, Blk.arr n10 (3 : Nat) g10, Blk.arr n11 (4 : Nat) g11, Blk.dead, Blk.dead, Blk.box [AV.osl (6 : Nat) (3 : Nat) (0 : Nat) n6, AV.osl (7 : Nat) (4 : Nat) (0 : Nat) n7, AV.osl (10 : Nat) (3 : Nat) (0 : Nat) n10, AV.osl (11 : Nat) (4 : Nat) (0 : Nat) n11], Blk.box [AV.osl (6 : Nat) (3 : Nat) (0 : Nat) n6, AV.osl (7 : Nat) (4 : Nat) (0 : Nat) n7]])))) (Tree.side (inR IntKind.i64 (1 : Int)) (Tree.leaf (Leaf2.back (0 : Nat) [((3 : Nat), AV.ptr (0 : Nat) (0 : Nat)), ((7 : Nat), AV.ptr (5 : Nat) (0 : Nat)), ((20 : Nat), AV.bool true), ((22 : Nat), AV.ptr (15 : Nat) (0 : Nat)), ((23 : Nat), AV.undef), ((24 : Nat), AV.int IntKind.i64 (↑n : Int)), ((152 : Nat), AV.osl (14 : Nat) (2 : Nat) (0 : Nat) (2 : Nat)), ((153 : Nat), AV.int IntKind.i64 (2 : Int)), ((154 : Nat), AV.int IntKind.i64 (1 : Int)), ((185 : Nat), AV.undef), ((186 : Nat), AV.undef), ((187 : Nat), AV.undef)] [Blk.box [AV.sl (List.length f) (3 : Nat) (fxG f), AV.sl (List.length c) (4 : Nat) (chG c)], Blk.dead, Blk.dead, Blk.arr (List.length f) (3 : Nat) (fxG f), Blk.arr (List.length c) (4 : Nat) (chG c), Blk.box [AV.osl (3 : Nat) (3 : Nat) (0 : Nat) (List.length f), AV.osl (4 : Nat) (4 : Nat) (0 : Nat) (List.length c)], Blk.arr n6 (3 : Nat) g6, Blk.arr n7 (4 : Nat) g7, Blk.dead, Blk.dead, Blk.arr n10 (3 : Nat) g10, Blk.arr n11 (4 : Nat) g11, Blk.dead, Blk.dead, Blk.box [AV.osl (6 : Nat) (3 : Nat) (0 : Nat) n6, AV.osl (7 : Nat) (4 : Nat) (0 : Nat) n7, AV.osl (10 : Nat) (3 : Nat) (0 : Nat) n10, AV.osl (11 : Nat) (4 : Nat) (0 : Nat) n11], Blk.box [AV.osl (6 : Nat) (3 : Nat) (0 : Nat) n6, AV.osl (7 : Nat) (4 : Nat) (0 : Nat) n7]])))) (by kernel_rfl) ?_
  simp only [Tree.holds, Leafs2, inR, lo, hi, Int.toNat_natCast]
  refine ⟨fun hlt => ?_, fun hge => ?_⟩
  · have hlt : n < n7 := by have := of_decide_eq_true hlt; omega
    refine ⟨by omega, fun _ => ⟨by omega, fun _ => ?_⟩⟩
    rw [if_pos trivial]
    exact ⟨⟨(n + 1, updG g7 (0 + n) 2 [.int .i64 (-7)]), hlt⟩, by show n7 - (n + 1) < n7 - n; omega, by simp [SLb0], by simp [HLz0, HLw, fxS, chS, eqB, eqG_refl], by kernel_rfl, Nat.zero_le _⟩
  · refine ⟨by decide, fun _ => ?_⟩
    rw [if_neg (by decide)]
    exact hback g6 g7 g10 g11 _ _ ⟨by simp [SLw], by simp [HLw, fxS, chS, eqB, eqG_refl], by kernel_rfl, Nat.zero_le _⟩
theorem law_a0 {O : Nat → Prop} {w0 : World} {Q : AV × Heap → Prop} {Hs : Nat → KV → Heap → Prop} (f : List Fx) (c : List Ch) (n6 n7 n10 n11 : Nat) (g6 g7 g10 g11 : Nat → Nat → AV) (hna : n6 < 2 ^ 40) (hn : n7 < 2 ^ 40)
    (hback : ∀ (g6 g7 g10 g11 : Nat → Nat → AV) (kv : KV) (h : Heap), LeK 0 Try.f3.ntmps kv h (SLw 1) (HLw f c n6 n7 n10 n11 g6 g7 g10 g11) → Hs 0 kv h) (kv : KV) (h : Heap) (hle : LeK 0 Try.f3.ntmps kv h (SLa0 0) (HLz0 f c n6 n7 n10 n11 g6 g7 g10 g11)) :
    SafeK Try.prog Try.f3 O 0 w0 [] Hs (RetR lawC 0 Q) (.code (.loop (lps (inside K3 0) 0).1) :: (lps (inside K3 0) 0).2) (mk Try.f3.ntmps kv h) := by
  refine SafeK.loop (ι := {p : Nat × (Nat → Nat → AV) // p.1 ≤ n6}) (fun p => SLa0 p.1.1) (fun p => HLz0 f c n6 n7 n10 n11 p.1.2 g7 g10 g11) (fun p => n6 - p.1.1) ⟨(0, g6), Nat.zero_le _⟩ 1 hle ?_ (by kernel_rfl)
  rintro ⟨⟨n, g6⟩, hil⟩
  simp only at hil
  refine SafeK.run (k := inside (inside K3 0) 0) hmix GLw_ok [3, 7, 20, 22, 23, 24, 152, 153, 154, 185, 186, 187] 400 (T := Tree.ite (decide ((↑n : Int) < (↑n6 : Int))) (Tree.side ((0 : Int) ≤ (↑n : Int) ∧ (↑n : Int) < (↑n6 : Int)) (Tree.side (inR IntKind.i64 ((↑n : Int) + (1 : Int))) (Tree.leaf (Leaf2.back (1 : Nat) [((3 : Nat), AV.ptr (0 : Nat) (0 : Nat)), ((7 : Nat), AV.ptr (5 : Nat) (0 : Nat)), ((20 : Nat), AV.bool true), ((22 : Nat), AV.ptr (15 : Nat) (0 : Nat)), ((23 : Nat), AV.int IntKind.i64 ((↑n : Int) + (1 : Int))), ((24 : Nat), AV.undef), ((152 : Nat), AV.osl (14 : Nat) (2 : Nat) (0 : Nat) (2 : Nat)), ((153 : Nat), AV.int IntKind.i64 (2 : Int)), ((154 : Nat), AV.int IntKind.i64 (0 : Int)), ((185 : Nat), AV.undef), ((186 : Nat), AV.undef), ((187 : Nat), AV.undef)] [Blk.box [AV.sl (List.length f) (3 : Nat) (fxG f), AV.sl (List.length c) (4 : Nat) (chG c)], Blk.dead, Blk.dead, Blk.arr (List.length f) (3 : Nat) (fxG f), Blk.arr (List.length c) (4 : Nat) (chG c), Blk.box [AV.osl (3 : Nat) (3 : Nat) (0 : Nat) (List.length f), AV.osl (4 : Nat) (4 : Nat) (0 : Nat) (List.length c)], Blk.arr n6 (3 : Nat) (updG g6 ((0 : Nat) + Int.toNat (↑n : Int)) (1 : Nat) [AV.int IntKind.i64 (-7 : Int)]), Blk.arr n7 (4 : Nat) g7, Blk.dead, Blk.dead, Blk.arr n10 (3 : Nat) g10, Blk.arr n11 (4 : Nat) g11, Blk.dead, Blk.dead, Blk.box [AV.osl (6 : Nat) (3 : Nat) (0 : Nat) n6, AV.osl (7 : Nat) (4 : Nat) (0 : Nat) n7, AV.osl (10 : Nat) (3 : Nat) (0 : Nat) n10, AV.osl (11 : Nat) (4 : Nat) (0 : Nat) n11], Blk.box [AV.osl (6 : Nat) (3 : Nat) (0 : Nat) n6, AV.osl (7 : Nat) (4 : Nat) (0 : Nat) n7]])))) (Tree.leaf (Leaf2.loop (Prod.fst (lps (inside (inside K3 (0 : Nat)) (0 : Nat)) (0 : Nat))) (Prod.snd (lps (inside (inside K3 (0 : Nat)) (0 : Nat)) (0 : Nat))) [((3 : Nat), AV.ptr (0 : Nat) (0 : Nat)), ((7 : Nat), AV.ptr (5 : Nat) (0 : Nat)), ((20 : Nat), AV.bool true), ((22 : Nat), AV.ptr (15 : Nat) (0 : Nat)), ((23 : Nat), AV.int IntKind.i64 (↑n : Int)), ((24 : Nat), AV.int IntKind.i64 (0 : Int)), ((152 : Nat), AV.osl (14 : Nat) (2 : Nat) (0 : Nat) (2 : Nat)), ((153 : Nat), AV.int IntKind.i64 (2 : Int)), ((154 : Nat), AV.int IntKind.i64 (0 : Int)), ((185 : Nat), AV.undef), ((186 : Nat), AV.undef), ((187 : Nat), AV.undef)] [Blk.box [AV.sl (List.length f) (3 : Nat) (fxG f), AV.sl (List.length c) (4 : Nat) (chG c)], Blk.dead, Blk.dead, Blk.arr (List.length f) (3 : Nat) (fxG f), Blk.arr (List.length c) (4 : Nat) (chG c), Blk.box [AV.osl (3 : Nat) (3 : Nat) (0 : Nat) (List.length f), AV.osl (4 : Nat) (4 : Nat) (0 : Nat) (List.length c)], Blk.arr n6 (3 : Nat) g6, Blk.arr n7 (4 : Nat) g7, Blk.dead, Blk.dead, Blk.arr n10 (3 : Nat) g10, Blk.arr n11 (4 : Nat) g11, Blk.dead, Blk.dead, Blk.box [AV.osl (6 : Nat) (3 : Nat) (0 : Nat) n6, AV.osl (7 : Nat) (4 : Nat) (0 : Nat) n7, AV.osl (10 : Nat) (3 : Nat) (0 : Nat) n10, AV.osl (11 : Nat) (4 : Nat) (0 : Nat) n11], Blk.box [AV.osl (6 : Nat) (3 : Nat) (0 : Nat) n6, AV.osl (7 : Nat) (4 : Nat) (0 : Nat) n7]]))) (by kernel_rfl) ?_
  simp only [Tree.holds, Leafs2, inR, lo, hi, Int.toNat_natCast]
  refine ⟨fun hlt => ?_, fun hge => ?_⟩
  · have hlt : n < n6 := by have := of_decide_eq_true hlt; omega
    refine ⟨by omega, fun _ => ⟨by omega, fun _ => ?_⟩⟩
    rw [if_pos trivial]
    exact ⟨⟨(n + 1, updG g6 (0 + n) 1 [.int .i64 (-7)]), hlt⟩, by show n6 - (n + 1) < n6 - n; omega, by simp [SLa0], by simp [HLz0, HLw, fxS, chS, eqB, eqG_refl], by kernel_rfl, Nat.zero_le _⟩
  · refine law_b0 f c n6 n7 n10 n11 g6 g7 g10 g11 hn (fun g6 g7 g10 g11 kv h hk => ?_) _ _ ⟨by simp [SLb0], by simp [HLz0, HLw, fxS, chS, eqB, eqG_refl], by kernel_rfl, Nat.zero_le _⟩
    rw [if_neg (by decide)]
    exact hback g6 g7 g10 g11 kv h hk
def SLa1 (n : Nat) : KV := [(3, .ptr 0 0), (7, .ptr 5 0), (20, .bool true), (22, .ptr 15 0), (23, .int .i64 (n : Int)), (24, .undef), (152, .osl 14 2 0 2), (153, .int .i64 2), (154, .int .i64 1), (185, .undef), (186, .undef), (187, .undef)]
def SLb1 (n : Nat) : KV := [(3, .ptr 0 0), (7, .ptr 5 0), (20, .bool true), (22, .ptr 15 0), (23, .undef), (24, .int .i64 (n : Int)), (152, .osl 14 2 0 2), (153, .int .i64 2), (154, .int .i64 1), (185, .undef), (186, .undef), (187, .undef)]
def HLz1 (f : List Fx) (c : List Ch) (n6 n7 n10 n11 : Nat) (g6 g7 g10 g11 : Nat → Nat → AV) : Heap := HLw f c n6 n7 n10 n11 g6 g7 g10 g11 ++ [.box [.osl 10 3 0 n10, .osl 11 4 0 n11]]
theorem law_b1 {O : Nat → Prop} {w0 : World} {Q : AV × Heap → Prop} {Hs : Nat → KV → Heap → Prop} (f : List Fx) (c : List Ch) (n6 n7 n10 n11 : Nat) (g6 g7 g10 g11 : Nat → Nat → AV) (hn : n11 < 2 ^ 40)
    (hback : ∀ (g6 g7 g10 g11 : Nat → Nat → AV) (kv : KV) (h : Heap), LeK 0 Try.f3.ntmps kv h (SLw 2) (HLw f c n6 n7 n10 n11 g6 g7 g10 g11) → Hs 0 kv h) (kv : KV) (h : Heap) (hle : LeK 0 Try.f3.ntmps kv h (SLb1 0) (HLz1 f c n6 n7 n10 n11 g6 g7 g10 g11)) :
    SafeK Try.prog Try.f3 O 0 w0 [] Hs (RetR lawC 0 Q) (.code (.loop (lps (inside (inside K3 0) 0) 0).1) :: (lps (inside (inside K3 0) 0) 0).2) (mk Try.f3.ntmps kv h) := by
  refine SafeK.loop (ι := {p : Nat × (Nat → Nat → AV) // p.1 ≤ n11}) (fun p => SLb1 p.1.1) (fun p => HLz1 f c n6 n7 n10 n11 g6 g7 g10 p.1.2) (fun p => n11 - p.1.1) ⟨(0, g11), Nat.zero_le _⟩ 1 hle ?_ (by kernel_rfl)
  rintro ⟨⟨n, g11⟩, hil⟩
  simp only at hil
  refine SafeK.run (k := inside (inside (inside K3 0) 0) 0) hmix GLw_ok [3, 7, 20, 22, 23, 24, 152, 153, 154, 185, 186, 187] 400 (T := Tree.ite (decide ((↑n : Int) < (↑n11 : Int))) (Tree.side ((0 : Int) ≤ (↑n : Int) ∧ (↑n : Int) < (↑n11 : Int)) (Tree.side (inR IntKind.i64 ((↑n : Int) + (1 : Int))) (Tree.leaf (Leaf2.back (1 : Nat) [((3 : Nat), AV.ptr (0 : Nat) (0 : Nat)), ((7 : Nat), AV.ptr (5 : Nat) (0 : Nat)), ((20 : Nat), AV.bool true), ((22 : Nat), AV.ptr (15 : Nat) (0 : Nat)), ((23 : Nat), AV.undef), ((24 : Nat), AV.int IntKind.i64 ((↑n : Int) + (1 : Int))), ((152 : Nat), AV.osl (14 : Nat) (2 : Nat) (0 : Nat) (2 : Nat)), ((153 : Nat), AV.int IntKind.i64 (2 : Int)), ((154 : Nat), AV.int IntKind.i64 (1 : Int)), ((185 : Nat), AV.undef), ((186 : Nat), AV.undef), ((187 : Nat), AV.undef)] [Blk.box [AV.sl (List.length f) (3 : Nat) (fxG f), AV.sl (List.length c) (4 : Nat) (chG c)], Blk.dead, Blk.dead, Blk.arr (List.length f) (3 : Nat) (fxG f), Blk.arr (List.length c) (4 : Nat) (chG c), Blk.box [AV.osl (3 : Nat) (3 : Nat) (0 : Nat) (List.length f), AV.osl (4 : Nat) (4 : Nat) (0 : Nat) (List.length c)], Blk.arr n6 (3 : Nat) g6, Blk.arr n7 (4 : Nat) g7, Blk.dead, Blk.dead, Blk.arr n10 (3 : Nat) g10, Blk.arr n11 (4 : Nat) (updG g11 ((0 : Nat) + Int.toNat (↑n : Int)) (2 : Nat) [AV.int IntKind.i64 (-7 : Int)]), Blk.dead, Blk.dead, Blk.box [AV.osl (6 : Nat) (3 : Nat) (0 : Nat) n6, AV.osl (7 : Nat) (4 : Nat) (0 : Nat) n7, AV.osl (10 : Nat) (3 : Nat) (0 : Nat) n10, AV.osl (11 : Nat) (4 : Nat) (0 : Nat) n11], Blk.box [AV.osl (10 : Nat) (3 : Nat) (0 : Nat) n10, AV.osl (11 : Nat) (4 : Nat) (0 : Nat) n11]])))) (Tree.side (inR IntKind.i64 (2 : Int)) (Tree.leaf (Leaf2.back (0 : Nat) [((3 : Nat), AV.ptr (0 : Nat) (0 : Nat)), ((7 : Nat), AV.ptr (5 : Nat) (0 : Nat)), ((20 : Nat), AV.bool true), ((22 : Nat), AV.ptr (15 : Nat) (0 : Nat)), ((23 : Nat), AV.undef), ((24 : Nat), AV.int IntKind.i64 (↑n : Int)), ((152 : Nat), AV.osl (14 : Nat) (2 : Nat) (0 : Nat) (2 : Nat)), ((153 : Nat), AV.int IntKind.i64 (2 : Int)), ((154 : Nat), AV.int IntKind.i64 (2 : Int)), ((185 : Nat), AV.undef), ((186 : Nat), AV.undef), ((187 : Nat), AV.undef)] [Blk.box [AV.sl (List.length f) (3 : Nat) (fxG f), AV.sl (List.length c) (4 : Nat) (chG c)], Blk.dead, Blk.dead, Blk.arr (List.length f) (3 : Nat) (fxG f), Blk.arr (List.length c) (4 : Nat) (chG c), Blk.box [AV.osl (3 : Nat) (3 : Nat) (0 : Nat) (List.length f), AV.osl (4 : Nat) (4 : Nat) (0 : Nat) (List.length c)], Blk.arr n6 (3 : Nat) g6, Blk.arr n7 (4 : Nat) g7, Blk.dead, Blk.dead, Blk.arr n10 (3 : Nat) g10, Blk.arr n11 (4 : Nat) g11, Blk.dead, Blk.dead, Blk.box [AV.osl (6 : Nat) (3 : Nat) (0 : Nat) n6, AV.osl (7 : Nat) (4 : Nat) (0 : Nat) n7, AV.osl (10 : Nat) (3 : Nat) (0 : Nat) n10, AV.osl (11 : Nat) (4 : Nat) (0 : Nat) n11], Blk.box [AV.osl (10 : Nat) (3 : Nat) (0 : Nat) n10, AV.osl (11 : Nat) (4 : Nat) (0 : Nat) n11]])))) (by kernel_rfl) ?_
  simp only [Tree.holds, Leafs2, inR, lo, hi, Int.toNat_natCast]
  refine ⟨fun hlt => ?_, fun hge => ?_⟩
  · have hlt : n < n11 := by have := of_decide_eq_true hlt; omega
    refine ⟨by omega, fun _ => ⟨by omega, fun _ => ?_⟩⟩
    rw [if_pos trivial]
    exact ⟨⟨(n + 1, updG g11 (0 + n) 2 [.int .i64 (-7)]), hlt⟩, by show n11 - (n + 1) < n11 - n; omega, by simp [SLb1], by simp [HLz1, HLw, fxS, chS, eqB, eqG_refl], by kernel_rfl, Nat.zero_le _⟩
  · refine ⟨by decide, fun _ => ?_⟩
    rw [if_neg (by decide)]
    exact hback g6 g7 g10 g11 _ _ ⟨by simp [SLw], by simp [HLw, fxS, chS, eqB, eqG_refl], by kernel_rfl, Nat.zero_le _⟩
theorem law_a1 {O : Nat → Prop} {w0 : World} {Q : AV × Heap → Prop} {Hs : Nat → KV → Heap → Prop} (f : List Fx) (c : List Ch) (n6 n7 n10 n11 : Nat) (g6 g7 g10 g11 : Nat → Nat → AV) (hna : n10 < 2 ^ 40) (hn : n11 < 2 ^ 40)
    (hback : ∀ (g6 g7 g10 g11 : Nat → Nat → AV) (kv : KV) (h : Heap), LeK 0 Try.f3.ntmps kv h (SLw 2) (HLw f c n6 n7 n10 n11 g6 g7 g10 g11) → Hs 0 kv h) (kv : KV) (h : Heap) (hle : LeK 0 Try.f3.ntmps kv h (SLa1 0) (HLz1 f c n6 n7 n10 n11 g6 g7 g10 g11)) :
    SafeK Try.prog Try.f3 O 0 w0 [] Hs (RetR lawC 0 Q) (.code (.loop (lps (inside K3 0) 0).1) :: (lps (inside K3 0) 0).2) (mk Try.f3.ntmps kv h) := by
  refine SafeK.loop (ι := {p : Nat × (Nat → Nat → AV) // p.1 ≤ n10}) (fun p => SLa1 p.1.1) (fun p => HLz1 f c n6 n7 n10 n11 g6 g7 p.1.2 g11) (fun p => n10 - p.1.1) ⟨(0, g10), Nat.zero_le _⟩ 1 hle ?_ (by kernel_rfl)
  rintro ⟨⟨n, g10⟩, hil⟩
  simp only at hil
  refine SafeK.run (k := inside (inside K3 0) 0) hmix GLw_ok [3, 7, 20, 22, 23, 24, 152, 153, 154, 185, 186, 187] 400 (T := Tree.ite (decide ((↑n : Int) < (↑n10 : Int))) (Tree.side ((0 : Int) ≤ (↑n : Int) ∧ (↑n : Int) < (↑n10 : Int)) (Tree.side (inR IntKind.i64 ((↑n : Int) + (1 : Int))) (Tree.leaf (Leaf2.back (1 : Nat) [((3 : Nat), AV.ptr (0 : Nat) (0 : Nat)), ((7 : Nat), AV.ptr (5 : Nat) (0 : Nat)), ((20 : Nat), AV.bool true), ((22 : Nat), AV.ptr (15 : Nat) (0 : Nat)), ((23 : Nat), AV.int IntKind.i64 ((↑n : Int) + (1 : Int))), ((24 : Nat), AV.undef), ((152 : Nat), AV.osl (14 : Nat) (2 : Nat) (0 : Nat) (2 : Nat)), ((153 : Nat), AV.int IntKind.i64 (2 : Int)), ((154 : Nat), AV.int IntKind.i64 (1 : Int)), ((185 : Nat), AV.undef), ((186 : Nat), AV.undef), ((187 : Nat), AV.undef)] [Blk.box [AV.sl (List.length f) (3 : Nat) (fxG f), AV.sl (List.length c) (4 : Nat) (chG c)], Blk.dead, Blk.dead, Blk.arr (List.length f) (3 : Nat) (fxG f), Blk.arr (List.length c) (4 : Nat) (chG c), Blk.box [AV.osl (3 : Nat) (3 : Nat) (0 : Nat) (List.length f), AV.osl (4 : Nat) (4 : Nat) (0 : Nat) (List.length c)], Blk.arr n6 (3 : Nat) g6, Blk.arr n7 (4 : Nat) g7, Blk.dead, Blk.dead, Blk.arr n10 (3 : Nat) (updG g10 ((0 : Nat) + Int.toNat (↑n : Int)) (1 : Nat) [AV.int IntKind.i64 (-7 : Int)]), Blk.arr n11 (4 : Nat) g11, Blk.dead, Blk.dead, Blk.box [AV.osl (6 : Nat) (3 : Nat) (0 : Nat) n6, AV.osl (7 : Nat) (4 : Nat) (0 : Nat) n7, AV.osl (10 : Nat) (3 : Nat) (0 : Nat) n10, AV.osl (11 : Nat) (4 : Nat) (0 : Nat) n11], Blk.box [AV.osl (10 : Nat) (3 : Nat) (0 : Nat) n10, AV.osl (11 : Nat) (4 : Nat) (0 : Nat) n11]])))) (Tree.leaf (Leaf2.loop (Prod.fst (lps (inside (inside K3 (0 : Nat)) (0 : Nat)) (0 : Nat))) (Prod.snd (lps (inside (inside K3 (0 : Nat)) (0 : Nat)) (0 : Nat))) [((3 : Nat), AV.ptr (0 : Nat) (0 : Nat)), ((7 : Nat), AV.ptr (5 : Nat) (0 : Nat)), ((20 : Nat), AV.bool true), ((22 : Nat), AV.ptr (15 : Nat) (0 : Nat)), ((23 : Nat), AV.int IntKind.i64 (↑n : Int)), ((24 : Nat), AV.int IntKind.i64 (0 : Int)), ((152 : Nat), AV.osl (14 : Nat) (2 : Nat) (0 : Nat) (2 : Nat)), ((153 : Nat), AV.int IntKind.i64 (2 : Int)), ((154 : Nat), AV.int IntKind.i64 (1 : Int)), ((185 : Nat), AV.undef), ((186 : Nat), AV.undef), ((187 : Nat), AV.undef)] [Blk.box [AV.sl (List.length f) (3 : Nat) (fxG f), AV.sl (List.length c) (4 : Nat) (chG c)], Blk.dead, Blk.dead, Blk.arr (List.length f) (3 : Nat) (fxG f), Blk.arr (List.length c) (4 : Nat) (chG c), Blk.box [AV.osl (3 : Nat) (3 : Nat) (0 : Nat) (List.length f), AV.osl (4 : Nat) (4 : Nat) (0 : Nat) (List.length c)], Blk.arr n6 (3 : Nat) g6, Blk.arr n7 (4 : Nat) g7, Blk.dead, Blk.dead, Blk.arr n10 (3 : Nat) g10, Blk.arr n11 (4 : Nat) g11, Blk.dead, Blk.dead, Blk.box [AV.osl (6 : Nat) (3 : Nat) (0 : Nat) n6, AV.osl (7 : Nat) (4 : Nat) (0 : Nat) n7, AV.osl (10 : Nat) (3 : Nat) (0 : Nat) n10, AV.osl (11 : Nat) (4 : Nat) (0 : Nat) n11], Blk.box [AV.osl (10 : Nat) (3 : Nat) (0 : Nat) n10, AV.osl (11 : Nat) (4 : Nat) (0 : Nat) n11]]))) (by kernel_rfl) ?_
  simp only [Tree.holds, Leafs2, inR, lo, hi, Int.toNat_natCast]
  refine ⟨fun hlt => ?_, fun hge => ?_⟩
  · have hlt : n < n10 := by have := of_decide_eq_true hlt; omega
    refine ⟨by omega, fun _ => ⟨by omega, fun _ => ?_⟩⟩
    rw [if_pos trivial]
    exact ⟨⟨(n + 1, updG g10 (0 + n) 1 [.int .i64 (-7)]), hlt⟩, by show n10 - (n + 1) < n10 - n; omega, by simp [SLa1], by simp [HLz1, HLw, fxS, chS, eqB, eqG_refl], by kernel_rfl, Nat.zero_le _⟩
  · refine law_b1 f c n6 n7 n10 n11 g6 g7 g10 g11 hn (fun g6 g7 g10 g11 kv h hk => ?_) _ _ ⟨by simp [SLb1], by simp [HLz1, HLw, fxS, chS, eqB, eqG_refl], by kernel_rfl, Nat.zero_le _⟩
    rw [if_neg (by decide)]
    exact hback g6 g7 g10 g11 kv h hk
theorem law_loop {O : Nat → Prop} {w0 : World} {Q : AV × Heap → Prop} {Hs : Nat → KV → Heap → Prop} (f : List Fx) (c : List Ch) (n6 n7 n10 n11 : Nat) (g6 g7 g10 g11 : Nat → Nat → AV) (hf : f.length < 2 ^ 40) (hc : c.length < 2 ^ 40) (h6 : n6 < 2 ^ 40) (h7 : n7 < 2 ^ 40) (h10 : n10 < 2 ^ 40) (h11 : n11 < 2 ^ 40) (hq : Q (.bool true, []))
    (kv : KV) (h : Heap) (hle : LeK 0 Try.f3.ntmps kv h (SLw 0) (HLw f c n6 n7 n10 n11 g6 g7 g10 g11)) :
    SafeK Try.prog Try.f3 O 0 w0 [] Hs (RetR lawC 0 Q) (.code (.loop (lps K3 0).1) :: (lps K3 0).2) (mk Try.f3.ntmps kv h) := by
  refine SafeK.loop (ι := {p : Nat × (Nat → Nat → AV) × (Nat → Nat → AV) × (Nat → Nat → AV) × (Nat → Nat → AV) // p.1 ≤ 2}) (fun p => SLw p.1.1) (fun p => HLw f c n6 n7 n10 n11 p.1.2.1 p.1.2.2.1 p.1.2.2.2.1 p.1.2.2.2.2) (fun p => 2 - p.1.1) ⟨(0, g6, g7, g10, g11), Nat.zero_le _⟩ 0 hle ?_ (by kernel_rfl)
  rintro ⟨⟨i, g6, g7, g10, g11⟩, hil⟩
  simp only at hil
  have end_ : ∀ (b : Bool) (h : Heap), (true = true → (b = true ↔ ((f, c) : List Fx × List Ch) = (f, c))) → RetR lawC 0 Q [.bool (bif true then b else false)] h := fun b h hb => by
    have : b = true := (hb rfl).2 rfl
    subst this
    exact RetR.scal hq rfl (by simp [resV])
  match i, hil with
  | 0, _ =>
    refine SafeK.run (k := inside K3 0) hmix GLw_ok [3, 7, 20, 22, 23, 24, 152, 153, 154, 185, 186, 187] 400 (T := Tree.ite true (Tree.side ((0 : Int) ≤ (0 : Int) ∧ (0 : Int) < (2 : Int)) (Tree.leaf (Leaf2.loop (Prod.fst (lps (inside K3 (0 : Nat)) (0 : Nat))) (Prod.snd (lps (inside K3 (0 : Nat)) (0 : Nat))) [((3 : Nat), AV.ptr (0 : Nat) (0 : Nat)), ((7 : Nat), AV.ptr (5 : Nat) (0 : Nat)), ((20 : Nat), AV.bool true), ((22 : Nat), AV.ptr (15 : Nat) (0 : Nat)), ((23 : Nat), AV.int IntKind.i64 (0 : Int)), ((24 : Nat), AV.undef), ((152 : Nat), AV.osl (14 : Nat) (2 : Nat) (0 : Nat) (2 : Nat)), ((153 : Nat), AV.int IntKind.i64 (2 : Int)), ((154 : Nat), AV.int IntKind.i64 (0 : Int)), ((185 : Nat), AV.undef), ((186 : Nat), AV.undef), ((187 : Nat), AV.undef)] [Blk.box [AV.sl (List.length f) (3 : Nat) (fxG f), AV.sl (List.length c) (4 : Nat) (chG c)], Blk.dead, Blk.dead, Blk.arr (List.length f) (3 : Nat) (fxG f), Blk.arr (List.length c) (4 : Nat) (chG c), Blk.box [AV.osl (3 : Nat) (3 : Nat) (0 : Nat) (List.length f), AV.osl (4 : Nat) (4 : Nat) (0 : Nat) (List.length c)], Blk.arr n6 (3 : Nat) g6, Blk.arr n7 (4 : Nat) g7, Blk.dead, Blk.dead, Blk.arr n10 (3 : Nat) g10, Blk.arr n11 (4 : Nat) g11, Blk.dead, Blk.dead, Blk.box [AV.osl (6 : Nat) (3 : Nat) (0 : Nat) n6, AV.osl (7 : Nat) (4 : Nat) (0 : Nat) n7, AV.osl (10 : Nat) (3 : Nat) (0 : Nat) n10, AV.osl (11 : Nat) (4 : Nat) (0 : Nat) n11], Blk.box [AV.osl (6 : Nat) (3 : Nat) (0 : Nat) n6, AV.osl (7 : Nat) (4 : Nat) (0 : Nat) n7]]))) (Tree.ex (fun (x : (List Fx × List Ch) × List Fx × List Ch) => true = true → eqL [AV.agg [AV.sl (List.length f) (3 : Nat) (viewG (fxG f) (0 : Nat)), AV.sl (List.length c) (4 : Nat) (viewG (chG c) (0 : Nat))], AV.agg [AV.sl (List.length f) (3 : Nat) (fxG f), AV.sl (List.length c) (4 : Nat) (chG c)]] [AV.agg [AV.sl (List.length (Prod.fst (Prod.fst x))) (3 : Nat) (fxG (Prod.fst (Prod.fst x))), AV.sl (List.length (Prod.snd (Prod.fst x))) (4 : Nat) (chG (Prod.snd (Prod.fst x)))], AV.agg [AV.sl (List.length (Prod.fst (Prod.snd x))) (3 : Nat) (fxG (Prod.fst (Prod.snd x))), AV.sl (List.length (Prod.snd (Prod.snd x))) (4 : Nat) (chG (Prod.snd (Prod.snd x)))]] ∧ List.length (Prod.fst (Prod.fst x)) < (1099511627776 : Nat) ∧ List.length (Prod.snd (Prod.fst x)) < (1099511627776 : Nat)) fun (n : (List Fx × List Ch) × List Fx × List Ch) => Tree.all (fun (x : Bool) => true = true → (x = true ↔ Prod.fst n = Prod.snd n)) fun (n : Bool) => Tree.leaf (Leaf2.ret [AV.bool (bif true then n else false)] [Blk.box [AV.sl (List.length f) (3 : Nat) (fxG f), AV.sl (List.length c) (4 : Nat) (chG c)], Blk.dead, Blk.dead, Blk.arr (List.length f) (3 : Nat) (fxG f), Blk.arr (List.length c) (4 : Nat) (chG c), Blk.box [AV.osl (3 : Nat) (3 : Nat) (0 : Nat) (List.length f), AV.osl (4 : Nat) (4 : Nat) (0 : Nat) (List.length c)], Blk.arr n6 (3 : Nat) g6, Blk.arr n7 (4 : Nat) g7, Blk.dead, Blk.dead, Blk.arr n10 (3 : Nat) g10, Blk.arr n11 (4 : Nat) g11, Blk.dead, Blk.dead, Blk.box [AV.osl (6 : Nat) (3 : Nat) (0 : Nat) n6, AV.osl (7 : Nat) (4 : Nat) (0 : Nat) n7, AV.osl (10 : Nat) (3 : Nat) (0 : Nat) n10, AV.osl (11 : Nat) (4 : Nat) (0 : Nat) n11]]))) (by kernel_rfl) ?_
    simp only [Tree.holds, Leafs2]
    refine ⟨fun _ => ⟨by decide, fun _ => ?_⟩, fun h => by cases h⟩
    refine law_a0 f c n6 n7 n10 n11 g6 g7 g10 g11 h6 h7 (fun g6 g7 g10 g11 kv h hk => ?_) _ _ ⟨by simp [SLa0], by simp [HLz0, HLw, fxS, chS, eqB, eqG_refl], by kernel_rfl, Nat.zero_le _⟩
    rw [if_pos rfl]
    exact ⟨⟨(1, g6, g7, g10, g11), by show 1 ≤ 2; decide⟩, by show 2 - 1 < 2 - 0; decide, hk⟩
  | 1, _ =>
    refine SafeK.run (k := inside K3 0) hmix GLw_ok [3, 7, 20, 22, 23, 24, 152, 153, 154, 185, 186, 187] 400 (T := Tree.ite true (Tree.side ((0 : Int) ≤ (1 : Int) ∧ (1 : Int) < (2 : Int)) (Tree.leaf (Leaf2.loop (Prod.fst (lps (inside K3 (0 : Nat)) (0 : Nat))) (Prod.snd (lps (inside K3 (0 : Nat)) (0 : Nat))) [((3 : Nat), AV.ptr (0 : Nat) (0 : Nat)), ((7 : Nat), AV.ptr (5 : Nat) (0 : Nat)), ((20 : Nat), AV.bool true), ((22 : Nat), AV.ptr (15 : Nat) (0 : Nat)), ((23 : Nat), AV.int IntKind.i64 (0 : Int)), ((24 : Nat), AV.undef), ((152 : Nat), AV.osl (14 : Nat) (2 : Nat) (0 : Nat) (2 : Nat)), ((153 : Nat), AV.int IntKind.i64 (2 : Int)), ((154 : Nat), AV.int IntKind.i64 (1 : Int)), ((185 : Nat), AV.undef), ((186 : Nat), AV.undef), ((187 : Nat), AV.undef)] [Blk.box [AV.sl (List.length f) (3 : Nat) (fxG f), AV.sl (List.length c) (4 : Nat) (chG c)], Blk.dead, Blk.dead, Blk.arr (List.length f) (3 : Nat) (fxG f), Blk.arr (List.length c) (4 : Nat) (chG c), Blk.box [AV.osl (3 : Nat) (3 : Nat) (0 : Nat) (List.length f), AV.osl (4 : Nat) (4 : Nat) (0 : Nat) (List.length c)], Blk.arr n6 (3 : Nat) g6, Blk.arr n7 (4 : Nat) g7, Blk.dead, Blk.dead, Blk.arr n10 (3 : Nat) g10, Blk.arr n11 (4 : Nat) g11, Blk.dead, Blk.dead, Blk.box [AV.osl (6 : Nat) (3 : Nat) (0 : Nat) n6, AV.osl (7 : Nat) (4 : Nat) (0 : Nat) n7, AV.osl (10 : Nat) (3 : Nat) (0 : Nat) n10, AV.osl (11 : Nat) (4 : Nat) (0 : Nat) n11], Blk.box [AV.osl (10 : Nat) (3 : Nat) (0 : Nat) n10, AV.osl (11 : Nat) (4 : Nat) (0 : Nat) n11]]))) (Tree.ex (fun (x : (List Fx × List Ch) × List Fx × List Ch) => true = true → eqL [AV.agg [AV.sl (List.length f) (3 : Nat) (viewG (fxG f) (0 : Nat)), AV.sl (List.length c) (4 : Nat) (viewG (chG c) (0 : Nat))], AV.agg [AV.sl (List.length f) (3 : Nat) (fxG f), AV.sl (List.length c) (4 : Nat) (chG c)]] [AV.agg [AV.sl (List.length (Prod.fst (Prod.fst x))) (3 : Nat) (fxG (Prod.fst (Prod.fst x))), AV.sl (List.length (Prod.snd (Prod.fst x))) (4 : Nat) (chG (Prod.snd (Prod.fst x)))], AV.agg [AV.sl (List.length (Prod.fst (Prod.snd x))) (3 : Nat) (fxG (Prod.fst (Prod.snd x))), AV.sl (List.length (Prod.snd (Prod.snd x))) (4 : Nat) (chG (Prod.snd (Prod.snd x)))]] ∧ List.length (Prod.fst (Prod.fst x)) < (1099511627776 : Nat) ∧ List.length (Prod.snd (Prod.fst x)) < (1099511627776 : Nat)) fun (n : (List Fx × List Ch) × List Fx × List Ch) => Tree.all (fun (x : Bool) => true = true → (x = true ↔ Prod.fst n = Prod.snd n)) fun (n : Bool) => Tree.leaf (Leaf2.ret [AV.bool (bif true then n else false)] [Blk.box [AV.sl (List.length f) (3 : Nat) (fxG f), AV.sl (List.length c) (4 : Nat) (chG c)], Blk.dead, Blk.dead, Blk.arr (List.length f) (3 : Nat) (fxG f), Blk.arr (List.length c) (4 : Nat) (chG c), Blk.box [AV.osl (3 : Nat) (3 : Nat) (0 : Nat) (List.length f), AV.osl (4 : Nat) (4 : Nat) (0 : Nat) (List.length c)], Blk.arr n6 (3 : Nat) g6, Blk.arr n7 (4 : Nat) g7, Blk.dead, Blk.dead, Blk.arr n10 (3 : Nat) g10, Blk.arr n11 (4 : Nat) g11, Blk.dead, Blk.dead, Blk.box [AV.osl (6 : Nat) (3 : Nat) (0 : Nat) n6, AV.osl (7 : Nat) (4 : Nat) (0 : Nat) n7, AV.osl (10 : Nat) (3 : Nat) (0 : Nat) n10, AV.osl (11 : Nat) (4 : Nat) (0 : Nat) n11]]))) (by kernel_rfl) ?_
    simp only [Tree.holds, Leafs2]
    refine ⟨fun _ => ⟨by decide, fun _ => ?_⟩, fun h => by cases h⟩
    refine law_a1 f c n6 n7 n10 n11 g6 g7 g10 g11 h10 h11 (fun g6 g7 g10 g11 kv h hk => ?_) _ _ ⟨by simp [SLa1], by simp [HLz1, HLw, fxS, chS, eqB, eqG_refl], by kernel_rfl, Nat.zero_le _⟩
    rw [if_pos rfl]
    exact ⟨⟨(2, g6, g7, g10, g11), by show 2 ≤ 2; decide⟩, by show 2 - 2 < 2 - 1; decide, hk⟩
  | 2, _ =>
    refine SafeK.run (k := inside K3 0) hmix GLw_ok [3, 7, 20, 22, 23, 24, 152, 153, 154, 185, 186, 187] 400 (T := Tree.ite false (Tree.side ((0 : Int) ≤ (2 : Int) ∧ (2 : Int) < (2 : Int)) Tree.fail) (Tree.ex (fun (x : (List Fx × List Ch) × List Fx × List Ch) => true = true → eqL [AV.agg [AV.sl (List.length f) (3 : Nat) (viewG (fxG f) (0 : Nat)), AV.sl (List.length c) (4 : Nat) (viewG (chG c) (0 : Nat))], AV.agg [AV.sl (List.length f) (3 : Nat) (fxG f), AV.sl (List.length c) (4 : Nat) (chG c)]] [AV.agg [AV.sl (List.length (Prod.fst (Prod.fst x))) (3 : Nat) (fxG (Prod.fst (Prod.fst x))), AV.sl (List.length (Prod.snd (Prod.fst x))) (4 : Nat) (chG (Prod.snd (Prod.fst x)))], AV.agg [AV.sl (List.length (Prod.fst (Prod.snd x))) (3 : Nat) (fxG (Prod.fst (Prod.snd x))), AV.sl (List.length (Prod.snd (Prod.snd x))) (4 : Nat) (chG (Prod.snd (Prod.snd x)))]] ∧ List.length (Prod.fst (Prod.fst x)) < (1099511627776 : Nat) ∧ List.length (Prod.snd (Prod.fst x)) < (1099511627776 : Nat)) fun (n : (List Fx × List Ch) × List Fx × List Ch) => Tree.all (fun (x : Bool) => true = true → (x = true ↔ Prod.fst n = Prod.snd n)) fun (n : Bool) => Tree.leaf (Leaf2.ret [AV.bool (bif true then n else false)] [Blk.box [AV.sl (List.length f) (3 : Nat) (fxG f), AV.sl (List.length c) (4 : Nat) (chG c)], Blk.dead, Blk.dead, Blk.arr (List.length f) (3 : Nat) (fxG f), Blk.arr (List.length c) (4 : Nat) (chG c), Blk.box [AV.osl (3 : Nat) (3 : Nat) (0 : Nat) (List.length f), AV.osl (4 : Nat) (4 : Nat) (0 : Nat) (List.length c)], Blk.arr n6 (3 : Nat) g6, Blk.arr n7 (4 : Nat) g7, Blk.dead, Blk.dead, Blk.arr n10 (3 : Nat) g10, Blk.arr n11 (4 : Nat) g11, Blk.dead, Blk.dead, Blk.box [AV.osl (6 : Nat) (3 : Nat) (0 : Nat) n6, AV.osl (7 : Nat) (4 : Nat) (0 : Nat) n7, AV.osl (10 : Nat) (3 : Nat) (0 : Nat) n10, AV.osl (11 : Nat) (4 : Nat) (0 : Nat) n11]]))) (by kernel_rfl) ?_
    simp only [Tree.holds, Leafs2]
    refine ⟨fun h => (by cases h), fun _ => ⟨((f, c), (f, c)), fun _ => ⟨by simp [eqG_view0, eqG_refl], hf, hc⟩, ⟨true, fun _ => by simp⟩, ?_⟩⟩
    intro b hb
    exact end_ _ _ fun _ => hb trivial
theorem law_ok : CtrOK Try.prog 3 lawC := by
  refine fn_ctrP (fn := Try.f3) (c := Try.f3.body.getD .skip) rfl rfl rfl fun p hp O w0 Q hq => ?_
  obtain ⟨⟨f, c⟩, ⟨a, d, v⟩, ⟨p, n, e, b⟩⟩ := p
  replace hq := hq _ rfl
  simp only at hq hp
  refine SafeK.run (k := K3) hmix GLw_ok [3, 7, 20, 22, 23, 24, 152, 153, 154, 185, 186, 187] 400 (T := Tree.ex (fun (x : List Fx × List Ch) => eqL [AV.agg [AV.sl (List.length f) (3 : Nat) (fxG f), AV.sl (List.length c) (4 : Nat) (chG c)]] [AV.agg [AV.sl (List.length (Prod.fst x)) (3 : Nat) (fxG (Prod.fst x)), AV.sl (List.length (Prod.snd x)) (4 : Nat) (chG (Prod.snd x))]] ∧ List.length (Prod.fst x) < (1152921504606846976 : Nat) ∧ List.length (Prod.snd x) < (1152921504606846976 : Nat) ∧ (∀ (j : Nat), j < List.length (Prod.fst x) → hugeF (List.getD (Prod.fst x) j Fx.nil)) ∧ ∀ (j : Nat), j < List.length (Prod.snd x) → hugeC (List.getD (Prod.snd x) j Ch.nil)) fun (n_1 : List Fx × List Ch) => Tree.all (fun (r : Bool) => r = false → fitP n_1) fun (n_2 : Bool) => Tree.ite (bif bif bif bif n_2 then true else decide ((1000 : Int) < (↑(List.length a) : Int)) then true else decide ((3000 : Int) < (↑(List.length v) : Int)) then true else decide ((1000 : Int) < (↑(List.length p) : Int)) then true else decide ((1000 : Int) < (↑(List.length n) : Int))) (Tree.leaf (Leaf2.ret [AV.bool true] [Blk.box [AV.sl (List.length f) (3 : Nat) (fxG f), AV.sl (List.length c) (4 : Nat) (chG c)], Blk.box [AV.str a, AV.int IntKind.i64 d, AV.str v], Blk.box [AV.str p, AV.str n, AV.int IntKind.i64 e, AV.bool b]])) (Tree.ex (fun (x : List Fx × List Ch) => eqL [AV.agg [AV.sl (List.length f) (3 : Nat) (fxG f), AV.sl (List.length c) (4 : Nat) (chG c)]] [AV.agg [AV.sl (List.length (Prod.fst x)) (3 : Nat) (fxG (Prod.fst x)), AV.sl (List.length (Prod.snd x)) (4 : Nat) (chG (Prod.snd x))]] ∧ List.length (Prod.fst x) < (1099511627776 : Nat) ∧ List.length (Prod.snd x) < (1099511627776 : Nat)) fun (n_3 : List Fx × List Ch) => Tree.all (fun (x : Unit) => True) fun (n_4 : Unit) => Tree.ex (fun (x : (List Fx × List Ch) × Fx) => eqL [AV.agg [AV.sl (List.length (Prod.fst n_3)) (3 : Nat) (viewG (fxG (Prod.fst n_3)) (0 : Nat)), AV.sl (List.length (Prod.snd n_3)) (4 : Nat) (viewG (chG (Prod.snd n_3)) (0 : Nat))], AV.agg [AV.str a, AV.int IntKind.i64 d, AV.str v]] [AV.agg [AV.sl (List.length (Prod.fst (Prod.fst x))) (3 : Nat) (fxG (Prod.fst (Prod.fst x))), AV.sl (List.length (Prod.snd (Prod.fst x))) (4 : Nat) (chG (Prod.snd (Prod.fst x)))], AV.agg [AV.str (Fx.name (Prod.snd x)), AV.int IntKind.i64 (Fx.date (Prod.snd x)), AV.str (Fx.value (Prod.snd x))]] ∧ envP (Prod.fst x) ∧ smallF (Prod.snd x)) fun (n_5 : (List Fx × List Ch) × Fx) => Tree.all (fun (r : (List Fx × List Ch) × Int) => r = putF (Prod.fst (Prod.fst n_5)) (Prod.snd (Prod.fst n_5)) (Prod.snd n_5)) fun (n_6 : (List Fx × List Ch) × Int) => Tree.ex (fun (x : (List Fx × List Ch) × Fx) => eqL [AV.agg [AV.sl (List.length f) (3 : Nat) (fxG f), AV.sl (List.length c) (4 : Nat) (chG c)], AV.agg [AV.str a, AV.int IntKind.i64 d, AV.str v]] [AV.agg [AV.sl (List.length (Prod.fst (Prod.fst x))) (3 : Nat) (fxG (Prod.fst (Prod.fst x))), AV.sl (List.length (Prod.snd (Prod.fst x))) (4 : Nat) (chG (Prod.snd (Prod.fst x)))], AV.agg [AV.str (Fx.name (Prod.snd x)), AV.int IntKind.i64 (Fx.date (Prod.snd x)), AV.str (Fx.value (Prod.snd x))]] ∧ envP (Prod.fst x) ∧ smallF (Prod.snd x)) fun (n_7 : (List Fx × List Ch) × Fx) => Tree.all (fun (r : (List Fx × List Ch) × Int) => r = putF (Prod.fst (Prod.fst n_7)) (Prod.snd (Prod.fst n_7)) (Prod.snd n_7)) fun (n_8 : (List Fx × List Ch) × Int) => Tree.ex (fun (x : (List Fx × List Ch) × Ch) => eqL [AV.agg [AV.sl (List.length (Prod.fst n_3)) (3 : Nat) (viewG (fxG (Prod.fst n_3)) (0 : Nat)), AV.sl (List.length (Prod.snd n_3)) (4 : Nat) (viewG (chG (Prod.snd n_3)) (0 : Nat))], AV.agg [AV.str p, AV.str n, AV.int IntKind.i64 e, AV.bool b]] [AV.agg [AV.sl (List.length (Prod.fst (Prod.fst x))) (3 : Nat) (fxG (Prod.fst (Prod.fst x))), AV.sl (List.length (Prod.snd (Prod.fst x))) (4 : Nat) (chG (Prod.snd (Prod.fst x)))], AV.agg [AV.str (Ch.party (Prod.snd x)), AV.str (Ch.name (Prod.snd x)), AV.int IntKind.i64 (Ch.date (Prod.snd x)), AV.bool (Ch.first (Prod.snd x))]] ∧ envP (Prod.fst x) ∧ smallC (Prod.snd x)) fun (n_9 : (List Fx × List Ch) × Ch) => Tree.all (fun (r : (List Fx × List Ch) × Int) => r = putC (Prod.fst (Prod.fst n_9)) (Prod.snd (Prod.fst n_9)) (Prod.snd n_9)) fun (n_10 : (List Fx × List Ch) × Int) => Tree.ex (fun (x : (List Fx × List Ch) × Ch) => eqL [AV.agg [AV.sl (List.length f) (3 : Nat) (fxG f), AV.sl (List.length c) (4 : Nat) (chG c)], AV.agg [AV.str p, AV.str n, AV.int IntKind.i64 e, AV.bool b]] [AV.agg [AV.sl (List.length (Prod.fst (Prod.fst x))) (3 : Nat) (fxG (Prod.fst (Prod.fst x))), AV.sl (List.length (Prod.snd (Prod.fst x))) (4 : Nat) (chG (Prod.snd (Prod.fst x)))], AV.agg [AV.str (Ch.party (Prod.snd x)), AV.str (Ch.name (Prod.snd x)), AV.int IntKind.i64 (Ch.date (Prod.snd x)), AV.bool (Ch.first (Prod.snd x))]] ∧ envP (Prod.fst x) ∧ smallC (Prod.snd x)) fun (n_11 : (List Fx × List Ch) × Ch) => Tree.all (fun (r : (List Fx × List Ch) × Int) => r = putC (Prod.fst (Prod.fst n_11)) (Prod.snd (Prod.fst n_11)) (Prod.snd n_11)) fun (n_12 : (List Fx × List Ch) × Int) => Tree.ex (fun (x : (List Fx × List Ch) × List UInt8 × Int) => eqL [AV.agg [AV.sl (List.length (Prod.fst n_3)) (3 : Nat) (viewG (fxG (Prod.fst n_3)) (0 : Nat)), AV.sl (List.length (Prod.snd n_3)) (4 : Nat) (viewG (chG (Prod.snd n_3)) (0 : Nat))], AV.str a, AV.int IntKind.i64 d] [AV.agg [AV.sl (List.length (Prod.fst (Prod.fst x))) (3 : Nat) (fxG (Prod.fst (Prod.fst x))), AV.sl (List.length (Prod.snd (Prod.fst x))) (4 : Nat) (chG (Prod.snd (Prod.fst x)))], AV.str (Prod.fst (Prod.snd x)), AV.int IntKind.i64 (Prod.snd (Prod.snd x))] ∧ List.length (Prod.fst (Prod.fst x)) < (1099511627776 : Nat)) fun (n_13 : (List Fx × List Ch) × List UInt8 × Int) => Tree.all (fun (r : List UInt8 × Bool) => r = findR (Prod.fst (Prod.fst n_13)) (Prod.fst (Prod.snd n_13)) (Prod.snd (Prod.snd n_13))) fun (n_14 : List UInt8 × Bool) => Tree.ex (fun (x : (List Fx × List Ch) × List UInt8 × Int) => eqL [AV.agg [AV.sl (List.length f) (3 : Nat) (fxG f), AV.sl (List.length c) (4 : Nat) (chG c)], AV.str a, AV.int IntKind.i64 d] [AV.agg [AV.sl (List.length (Prod.fst (Prod.fst x))) (3 : Nat) (fxG (Prod.fst (Prod.fst x))), AV.sl (List.length (Prod.snd (Prod.fst x))) (4 : Nat) (chG (Prod.snd (Prod.fst x)))], AV.str (Prod.fst (Prod.snd x)), AV.int IntKind.i64 (Prod.snd (Prod.snd x))] ∧ List.length (Prod.fst (Prod.fst x)) < (1099511627776 : Nat)) fun (n_15 : (List Fx × List Ch) × List UInt8 × Int) => Tree.all (fun (r : List UInt8 × Bool) => r = findR (Prod.fst (Prod.fst n_15)) (Prod.fst (Prod.snd n_15)) (Prod.snd (Prod.snd n_15))) fun (n_16 : List UInt8 × Bool) => Tree.ex (fun (x : List Fx × List Ch) => eqL [AV.agg [AV.sl (List.length (Prod.fst n_3)) (3 : Nat) (viewG (fxG (Prod.fst n_3)) (0 : Nat)), AV.sl (List.length (Prod.snd n_3)) (4 : Nat) (viewG (chG (Prod.snd n_3)) (0 : Nat))]] [AV.agg [AV.sl (List.length (Prod.fst x)) (3 : Nat) (fxG (Prod.fst x)), AV.sl (List.length (Prod.snd x)) (4 : Nat) (chG (Prod.snd x))]] ∧ envP x) fun (n_17 : List Fx × List Ch) => Tree.all (fun (r : Int) => r = errE (Prod.fst n_17) (Prod.snd n_17)) fun (n_18 : Int) => Tree.ex (fun (x : List Fx × List Ch) => eqL [AV.agg [AV.sl (List.length f) (3 : Nat) (fxG f), AV.sl (List.length c) (4 : Nat) (chG c)]] [AV.agg [AV.sl (List.length (Prod.fst x)) (3 : Nat) (fxG (Prod.fst x)), AV.sl (List.length (Prod.snd x)) (4 : Nat) (chG (Prod.snd x))]] ∧ envP x) fun (n_19 : List Fx × List Ch) => Tree.all (fun (r : Int) => r = errE (Prod.fst n_19) (Prod.snd n_19)) fun (n_20 : Int) => Tree.ex (fun (x : (List Fx × List Ch) × List Fx × List Ch) => decide (n_18 = n_20) = true → eqL [AV.agg [AV.sl (List.length (Prod.fst (Prod.fst n_6))) (3 : Nat) (viewG (fxG (Prod.fst (Prod.fst n_6))) (0 : Nat)), AV.sl (List.length (Prod.snd (Prod.fst n_6))) (4 : Nat) (viewG (chG (Prod.snd (Prod.fst n_6))) (0 : Nat))], AV.agg [AV.sl (List.length (Prod.fst (Prod.fst n_8))) (3 : Nat) (fxG (Prod.fst (Prod.fst n_8))), AV.sl (List.length (Prod.snd (Prod.fst n_8))) (4 : Nat) (chG (Prod.snd (Prod.fst n_8)))]] [AV.agg [AV.sl (List.length (Prod.fst (Prod.fst x))) (3 : Nat) (fxG (Prod.fst (Prod.fst x))), AV.sl (List.length (Prod.snd (Prod.fst x))) (4 : Nat) (chG (Prod.snd (Prod.fst x)))], AV.agg [AV.sl (List.length (Prod.fst (Prod.snd x))) (3 : Nat) (fxG (Prod.fst (Prod.snd x))), AV.sl (List.length (Prod.snd (Prod.snd x))) (4 : Nat) (chG (Prod.snd (Prod.snd x)))]] ∧ List.length (Prod.fst (Prod.fst x)) < (1099511627776 : Nat) ∧ List.length (Prod.snd (Prod.fst x)) < (1099511627776 : Nat)) fun (n_21 : (List Fx × List Ch) × List Fx × List Ch) => Tree.all (fun (x : Bool) => decide (n_18 = n_20) = true → (x = true ↔ Prod.fst n_21 = Prod.snd n_21)) fun (n_22 : Bool) => Tree.ex (fun (x : (List Fx × List Ch) × List Fx × List Ch) => (bif bif decide (n_18 = n_20) then n_22 else false then decide (Prod.snd n_6 = Prod.snd n_8) else false) = true → eqL [AV.agg [AV.sl (List.length (Prod.fst (Prod.fst n_10))) (3 : Nat) (viewG (fxG (Prod.fst (Prod.fst n_10))) (0 : Nat)), AV.sl (List.length (Prod.snd (Prod.fst n_10))) (4 : Nat) (viewG (chG (Prod.snd (Prod.fst n_10))) (0 : Nat))], AV.agg [AV.sl (List.length (Prod.fst (Prod.fst n_12))) (3 : Nat) (fxG (Prod.fst (Prod.fst n_12))), AV.sl (List.length (Prod.snd (Prod.fst n_12))) (4 : Nat) (chG (Prod.snd (Prod.fst n_12)))]] [AV.agg [AV.sl (List.length (Prod.fst (Prod.fst x))) (3 : Nat) (fxG (Prod.fst (Prod.fst x))), AV.sl (List.length (Prod.snd (Prod.fst x))) (4 : Nat) (chG (Prod.snd (Prod.fst x)))], AV.agg [AV.sl (List.length (Prod.fst (Prod.snd x))) (3 : Nat) (fxG (Prod.fst (Prod.snd x))), AV.sl (List.length (Prod.snd (Prod.snd x))) (4 : Nat) (chG (Prod.snd (Prod.snd x)))]] ∧ List.length (Prod.fst (Prod.fst x)) < (1099511627776 : Nat) ∧ List.length (Prod.snd (Prod.fst x)) < (1099511627776 : Nat)) fun (n_23 : (List Fx × List Ch) × List Fx × List Ch) => Tree.all (fun (x : Bool) => (bif bif decide (n_18 = n_20) then n_22 else false then decide (Prod.snd n_6 = Prod.snd n_8) else false) = true → (x = true ↔ Prod.fst n_23 = Prod.snd n_23)) fun (n_24 : Bool) => Tree.ex (fun (x : (List Fx × List Ch) × List UInt8 × List UInt8 × Int) => (bif bif bif bif bif bif decide (n_18 = n_20) then n_22 else false then decide (Prod.snd n_6 = Prod.snd n_8) else false then n_24 else false then decide (Prod.snd n_10 = Prod.snd n_12) else false then decide (Prod.fst n_14 = Prod.fst n_16) else false then Prod.snd n_14 == Prod.snd n_16 else false) = true → eqL [AV.agg [AV.sl (List.length (Prod.fst n_3)) (3 : Nat) (viewG (fxG (Prod.fst n_3)) (0 : Nat)), AV.sl (List.length (Prod.snd n_3)) (4 : Nat) (viewG (chG (Prod.snd n_3)) (0 : Nat))], AV.str p, AV.str n, AV.int IntKind.i64 e] [AV.agg [AV.sl (List.length (Prod.fst (Prod.fst x))) (3 : Nat) (fxG (Prod.fst (Prod.fst x))), AV.sl (List.length (Prod.snd (Prod.fst x))) (4 : Nat) (chG (Prod.snd (Prod.fst x)))], AV.str (Prod.fst (Prod.snd x)), AV.str (Prod.fst (Prod.snd (Prod.snd x))), AV.int IntKind.i64 (Prod.snd (Prod.snd (Prod.snd x)))] ∧ List.length (Prod.snd (Prod.fst x)) < (1099511627776 : Nat)) fun (n_25 : (List Fx × List Ch) × List UInt8 × List UInt8 × Int) => Tree.all (fun (x : Bool) => (bif bif bif bif bif bif decide (n_18 = n_20) then n_22 else false then decide (Prod.snd n_6 = Prod.snd n_8) else false then n_24 else false then decide (Prod.snd n_10 = Prod.snd n_12) else false then decide (Prod.fst n_14 = Prod.fst n_16) else false then Prod.snd n_14 == Prod.snd n_16 else false) = true → x = chosenR (Prod.snd (Prod.fst n_25)) (Prod.fst (Prod.snd n_25)) (Prod.fst (Prod.snd (Prod.snd n_25))) (Prod.snd (Prod.snd (Prod.snd n_25)))) fun (n_26 : Bool) => Tree.ex (fun (x : (List Fx × List Ch) × List UInt8 × List UInt8 × Int) => (bif bif bif bif bif bif decide (n_18 = n_20) then n_22 else false then decide (Prod.snd n_6 = Prod.snd n_8) else false then n_24 else false then decide (Prod.snd n_10 = Prod.snd n_12) else false then decide (Prod.fst n_14 = Prod.fst n_16) else false then Prod.snd n_14 == Prod.snd n_16 else false) = true → eqL [AV.agg [AV.sl (List.length f) (3 : Nat) (fxG f), AV.sl (List.length c) (4 : Nat) (chG c)], AV.str p, AV.str n, AV.int IntKind.i64 e] [AV.agg [AV.sl (List.length (Prod.fst (Prod.fst x))) (3 : Nat) (fxG (Prod.fst (Prod.fst x))), AV.sl (List.length (Prod.snd (Prod.fst x))) (4 : Nat) (chG (Prod.snd (Prod.fst x)))], AV.str (Prod.fst (Prod.snd x)), AV.str (Prod.fst (Prod.snd (Prod.snd x))), AV.int IntKind.i64 (Prod.snd (Prod.snd (Prod.snd x)))] ∧ List.length (Prod.snd (Prod.fst x)) < (1099511627776 : Nat)) fun (n_27 : (List Fx × List Ch) × List UInt8 × List UInt8 × Int) => Tree.all (fun (x : Bool) => (bif bif bif bif bif bif decide (n_18 = n_20) then n_22 else false then decide (Prod.snd n_6 = Prod.snd n_8) else false then n_24 else false then decide (Prod.snd n_10 = Prod.snd n_12) else false then decide (Prod.fst n_14 = Prod.fst n_16) else false then Prod.snd n_14 == Prod.snd n_16 else false) = true → x = chosenR (Prod.snd (Prod.fst n_27)) (Prod.fst (Prod.snd n_27)) (Prod.fst (Prod.snd (Prod.snd n_27))) (Prod.snd (Prod.snd (Prod.snd n_27)))) fun (n_28 : Bool) => Tree.leaf (Leaf2.loop (Prod.fst (lps K3 (0 : Nat))) (Prod.snd (lps K3 (0 : Nat))) [((3 : Nat), AV.ptr (0 : Nat) (0 : Nat)), ((7 : Nat), AV.ptr (5 : Nat) (0 : Nat)), ((20 : Nat), AV.bool (bif bif bif bif bif bif bif decide (n_18 = n_20) then n_22 else false then decide (Prod.snd n_6 = Prod.snd n_8) else false then n_24 else false then decide (Prod.snd n_10 = Prod.snd n_12) else false then decide (Prod.fst n_14 = Prod.fst n_16) else false then Prod.snd n_14 == Prod.snd n_16 else false then n_26 == n_28 else false)), ((22 : Nat), AV.undef), ((23 : Nat), AV.undef), ((24 : Nat), AV.undef), ((152 : Nat), AV.osl (14 : Nat) (2 : Nat) (0 : Nat) (2 : Nat)), ((153 : Nat), AV.int IntKind.i64 (2 : Int)), ((154 : Nat), AV.int IntKind.i64 (0 : Int)), ((185 : Nat), AV.undef), ((186 : Nat), AV.undef), ((187 : Nat), AV.undef)] [Blk.box [AV.sl (List.length f) (3 : Nat) (fxG f), AV.sl (List.length c) (4 : Nat) (chG c)], Blk.box [AV.str a, AV.int IntKind.i64 d, AV.str v], Blk.box [AV.str p, AV.str n, AV.int IntKind.i64 e, AV.bool b], Blk.arr (List.length (Prod.fst n_3)) (3 : Nat) (fxG (Prod.fst n_3)), Blk.arr (List.length (Prod.snd n_3)) (4 : Nat) (chG (Prod.snd n_3)), Blk.box [AV.osl (3 : Nat) (3 : Nat) (0 : Nat) (List.length (Prod.fst n_3)), AV.osl (4 : Nat) (4 : Nat) (0 : Nat) (List.length (Prod.snd n_3))], Blk.arr (List.length (Prod.fst (Prod.fst n_6))) (3 : Nat) (fxG (Prod.fst (Prod.fst n_6))), Blk.arr (List.length (Prod.snd (Prod.fst n_6))) (4 : Nat) (chG (Prod.snd (Prod.fst n_6))), Blk.box [AV.osl (6 : Nat) (3 : Nat) (0 : Nat) (List.length (Prod.fst (Prod.fst n_6))), AV.osl (7 : Nat) (4 : Nat) (0 : Nat) (List.length (Prod.snd (Prod.fst n_6)))], Blk.box [AV.sl (List.length (Prod.fst (Prod.fst n_8))) (3 : Nat) (fxG (Prod.fst (Prod.fst n_8))), AV.sl (List.length (Prod.snd (Prod.fst n_8))) (4 : Nat) (chG (Prod.snd (Prod.fst n_8)))], Blk.arr (List.length (Prod.fst (Prod.fst n_10))) (3 : Nat) (fxG (Prod.fst (Prod.fst n_10))), Blk.arr (List.length (Prod.snd (Prod.fst n_10))) (4 : Nat) (chG (Prod.snd (Prod.fst n_10))), Blk.box [AV.osl (10 : Nat) (3 : Nat) (0 : Nat) (List.length (Prod.fst (Prod.fst n_10))), AV.osl (11 : Nat) (4 : Nat) (0 : Nat) (List.length (Prod.snd (Prod.fst n_10)))], Blk.box [AV.sl (List.length (Prod.fst (Prod.fst n_12))) (3 : Nat) (fxG (Prod.fst (Prod.fst n_12))), AV.sl (List.length (Prod.snd (Prod.fst n_12))) (4 : Nat) (chG (Prod.snd (Prod.fst n_12)))], Blk.box [AV.osl (6 : Nat) (3 : Nat) (0 : Nat) (List.length (Prod.fst (Prod.fst n_6))), AV.osl (7 : Nat) (4 : Nat) (0 : Nat) (List.length (Prod.snd (Prod.fst n_6))), AV.osl (10 : Nat) (3 : Nat) (0 : Nat) (List.length (Prod.fst (Prod.fst n_10))), AV.osl (11 : Nat) (4 : Nat) (0 : Nat) (List.length (Prod.snd (Prod.fst n_10)))]]))) (by kernel_rfl) ?_
  simp only [Tree.holds, Leafs2]
  refine ⟨(f, c), ⟨by simp [eqG_refl], hp⟩, ⟨true, fun h => by cases h⟩, ?_⟩
  intro gr hgr
  refine ⟨fun _ => RetR.scal hq rfl (by simp [resV]), fun h => ?_⟩
  have hsm : gr = false ∧ a.length ≤ 1000 ∧ v.length ≤ 3000 ∧ p.length ≤ 1000 ∧ n.length ≤ 1000 := by
    have hc : ∀ {x y : Bool}, (bif x then true else y) = false → x = false ∧ y = false := fun {x y} => by cases x <;> cases y <;> simp
    obtain ⟨h, h5⟩ := hc h
    obtain ⟨h, h4⟩ := hc h
    obtain ⟨h, h3⟩ := hc h
    obtain ⟨h, h2⟩ := hc h
    have h2 := of_decide_eq_false h2
    have h3 := of_decide_eq_false h3
    have h4 := of_decide_eq_false h4
    have h5 := of_decide_eq_false h5
    exact ⟨h, by omega, by omega, by omega, by omega⟩
  obtain ⟨hgf, ha, hv, hpp, hnn⟩ := hsm
  obtain ⟨k1, k2, k3, k4⟩ := hgr hgf
  simp only at k1 k2 k3 k4
  have hE : envP (f, c) := ⟨by show f.length < _; omega, by show c.length < _; omega, fun j hj => by have := k3 j hj; exact ⟨by show (f.getD j Fx.nil).name.length < _; omega, by show (f.getD j Fx.nil).value.length < _; omega⟩, fun j hj => by have := k4 j hj; exact ⟨by show (c.getD j Ch.nil).party.length < _; omega, by show (c.getD j Ch.nil).name.length < _; omega⟩⟩
  have hx : smallF ⟨a, d, v⟩ := ⟨by show a.length < _; omega, by show v.length < _; omega⟩
  have hy : smallC ⟨p, n, e, b⟩ := ⟨by show p.length < _; omega, by show n.length < _; omega⟩
  have hfl : f.length < 2 ^ 40 := by omega
  have hcl : c.length < 2 ^ 40 := by omega
  refine ⟨(f, c), ⟨by simp [eqG_refl], hfl, hcl⟩, ⟨(), trivial⟩, fun _ _ => ?_⟩
  refine ⟨((f, c), ⟨a, d, v⟩), ⟨by simp [eqG_view0], hE, hx⟩, ⟨_, rfl⟩, ?_⟩
  rintro _ rfl
  refine ⟨((f, c), ⟨a, d, v⟩), ⟨by simp [eqG_refl], hE, hx⟩, ⟨_, rfl⟩, ?_⟩
  rintro _ rfl
  refine ⟨((f, c), ⟨p, n, e, b⟩), ⟨by simp [eqG_view0], hE, hy⟩, ⟨_, rfl⟩, ?_⟩
  rintro _ rfl
  refine ⟨((f, c), ⟨p, n, e, b⟩), ⟨by simp [eqG_refl], hE, hy⟩, ⟨_, rfl⟩, ?_⟩
  rintro _ rfl
  refine ⟨((f, c), (a, d)), ⟨by simp [eqG_view0], hfl⟩, ⟨_, rfl⟩, ?_⟩
  rintro _ rfl
  refine ⟨((f, c), (a, d)), ⟨by simp [eqG_refl], hfl⟩, ⟨_, rfl⟩, ?_⟩
  rintro _ rfl
  refine ⟨(f, c), ⟨by simp [eqG_view0], hE⟩, ⟨_, rfl⟩, ?_⟩
  rintro _ rfl
  refine ⟨(f, c), ⟨by simp [eqG_refl], hE⟩, ⟨_, rfl⟩, ?_⟩
  rintro _ rfl
  simp only
  obtain ⟨A, hA⟩ : ∃ A, putF f c ⟨a, d, v⟩ = A := ⟨_, rfl⟩
  obtain ⟨B, hB⟩ : ∃ B, putC f c ⟨p, n, e, b⟩ = B := ⟨_, rfl⟩
  have hAl := @put_len f c ⟨a, d, v⟩
  have hBl := @cho_len f c ⟨p, n, e, b⟩
  simp only [hA, hB] at hAl hBl ⊢
  refine ⟨(A.1, A.1), fun _ => ⟨by simp [eqG_view0, eqG_refl], by show A.1.1.length < _; omega, by show A.1.2.length < _; omega⟩, ⟨true, fun _ => by simp⟩, ?_⟩
  intro b1 g1
  have g1 : b1 = true := (g1 (by simp)).2 rfl
  subst g1
  refine ⟨(B.1, B.1), fun _ => ⟨by simp [eqG_view0, eqG_refl], by show B.1.1.length < _; omega, by show B.1.2.length < _; omega⟩, ⟨true, fun _ => by simp⟩, ?_⟩
  intro b2 g2
  have g2 : b2 = true := (g2 (by simp)).2 rfl
  subst g2
  refine ⟨((f, c), (p, n, e)), fun _ => ⟨by simp [eqG_view0], hcl⟩, ⟨_, fun _ => rfl⟩, ?_⟩
  intro b3 g3
  have g3 := g3 (by simp)
  subst g3
  refine ⟨((f, c), (p, n, e)), fun _ => ⟨by simp [eqG_refl], hcl⟩, ⟨_, fun _ => rfl⟩, ?_⟩
  intro b4 g4
  have g4 := g4 (by simp)
  subst g4
  refine law_loop f c A.1.1.length A.1.2.length B.1.1.length B.1.2.length (fxG A.1.1) (chG A.1.2) (fxG B.1.1) (chG B.1.2) hfl hcl (by omega) (by omega) (by omega) (by omega) hq _ _ ⟨by simp [SLw], by simp [HLw, fxS, chS, eqB, eqG_refl], by kernel_rfl, Nat.zero_le _⟩
end Go.Proofs.Try
end

/- For every input the law returns true, and each argument reads behind the call as it read before. -/
section
set_option linter.unusedVariables false
set_option linter.unusedSimpArgs false
set_option maxRecDepth 100000
namespace Go.Proofs.Ytabhidbmlldadaa
open Go Go.Sx Go.Nov Go.Proofs.Try Go.ChangeShapes Go.WideShapes Go.ChangeAt Go.RowKit
theorem cells_str : Try.prog.cellsOf 9 = 1 := by kernel_rfl
theorem cells_rat : Try.prog.cellsOf 26 = 1 := by kernel_rfl
theorem cells_int : Try.prog.cellsOf 3 = 1 := by kernel_rfl
theorem cells_bool : Try.prog.cellsOf 4 = 1 := by kernel_rfl
theorem cells_fx : Try.prog.cellsOf 28 = 3 := by kernel_rfl
theorem cells_ch : Try.prog.cellsOf 30 = 4 := by kernel_rfl
theorem cells_sf : Try.prog.cellsOf 22 = 1 := by kernel_rfl
theorem cells_sc : Try.prog.cellsOf 23 = 1 := by kernel_rfl
theorem cells_env : Try.prog.cellsOf 25 = 2 := by kernel_rfl
def wideF (x : Fx) : Prop := x.name.length ≤ reachBytes ∧ x.value.length ≤ reachBytes
def wideC (x : Ch) : Prop := x.party.length ≤ reachBytes ∧ x.name.length ≤ reachBytes
theorem fx_cells {W : World} {cs : List Value} (h : Tw Try.prog W 28 cs) : ∃ x : Fx, wideF x ∧ cs = [.string ⟨x.name.toArray⟩, .int .i64 x.date, .string ⟨x.value.toArray⟩] := by
  obtain ⟨hl, hf⟩ := tw_struct Try.underlying28 h
  rw [cells_fx] at hl
  match cs, hl with
  | [a, b, c], _ =>
    have h0 : Tw Try.prog W 9 (([a, b, c].drop 0).take (Try.prog.cellsOf 9)) := hf 0 _ rfl
    rw [cells_str] at h0
    replace h0 : Tw Try.prog W 9 [a] := h0
    have h1 : Tw Try.prog W 3 (([a, b, c].drop 1).take (Try.prog.cellsOf 3)) := hf 1 _ rfl
    rw [cells_int] at h1
    replace h1 : Tw Try.prog W 3 [b] := h1
    have h2 : Tw Try.prog W 26 (([a, b, c].drop 2).take (Try.prog.cellsOf 26)) := hf 2 _ rfl
    rw [cells_rat] at h2
    replace h2 : Tw Try.prog W 26 [c] := h2
    obtain ⟨s, e0, w0⟩ := tw_str Try.underlying9 h0
    obtain ⟨n, e1, w1⟩ := tw_int Try.underlying3 h1
    obtain ⟨u, e2, w2⟩ := tw_str Try.underlying26 h2
    cases e0; cases e1; cases e2
    exact ⟨⟨s, n, u⟩, ⟨w0, w2⟩, rfl⟩
theorem ch_cells {W : World} {cs : List Value} (h : Tw Try.prog W 30 cs) : ∃ x : Ch, wideC x ∧ cs = [.string ⟨x.party.toArray⟩, .string ⟨x.name.toArray⟩, .int .i64 x.date, .bool x.first] := by
  obtain ⟨hl, hf⟩ := tw_struct Try.underlying30 h
  rw [cells_ch] at hl
  match cs, hl with
  | [a, b, c, d], _ =>
    have h0 : Tw Try.prog W 9 (([a, b, c, d].drop 0).take (Try.prog.cellsOf 9)) := hf 0 _ rfl
    rw [cells_str] at h0
    replace h0 : Tw Try.prog W 9 [a] := h0
    have h1 : Tw Try.prog W 9 (([a, b, c, d].drop 1).take (Try.prog.cellsOf 9)) := hf 1 _ rfl
    rw [cells_str] at h1
    replace h1 : Tw Try.prog W 9 [b] := h1
    have h2 : Tw Try.prog W 3 (([a, b, c, d].drop 2).take (Try.prog.cellsOf 3)) := hf 2 _ rfl
    rw [cells_int] at h2
    replace h2 : Tw Try.prog W 3 [c] := h2
    have h3 : Tw Try.prog W 4 (([a, b, c, d].drop 3).take (Try.prog.cellsOf 4)) := hf 3 _ rfl
    rw [cells_bool] at h3
    replace h3 : Tw Try.prog W 4 [d] := h3
    obtain ⟨s, e0, w0⟩ := tw_str Try.underlying9 h0
    obtain ⟨u, e1, w1⟩ := tw_str Try.underlying9 h1
    obtain ⟨n, e2, w2⟩ := tw_int Try.underlying3 h2
    obtain ⟨b, e3⟩ := tw_bool Try.underlying4 h3
    cases e0; cases e1; cases e2; cases e3
    exact ⟨⟨s, u, n, b⟩, ⟨w0, w1⟩, rfl⟩
theorem env_cells {W : World} {cs : List Value} (h : Tw Try.prog W 25 cs) : ∃ (f : List Fx) (c : List Ch) (u v : Value), cs = [u, v] ∧ (∀ x ∈ f, wideF x) ∧ (∀ x ∈ c, wideC x) ∧ f.length * 40 ≤ reachBytes ∧ c.length * 48 ≤ reachBytes ∧ Rep E0 W (fxS f) [] u ∧ Rep E0 W (chS c) [] v := by
  obtain ⟨hl, hf⟩ := tw_struct Try.underlying25 h
  rw [cells_env] at hl
  match cs, hl with
  | [a, b], _ =>
    have h0 : Tw Try.prog W 22 (([a, b].drop 0).take (Try.prog.cellsOf 22)) := hf 0 _ rfl
    rw [cells_sf] at h0
    replace h0 : Tw Try.prog W 22 [a] := h0
    have h1 : Tw Try.prog W 23 (([a, b].drop 1).take (Try.prog.cellsOf 23)) := hf 1 _ rfl
    rw [cells_sc] at h1
    replace h1 : Tw Try.prog W 23 [b] := h1
    obtain ⟨f, u, e0, gf, wf, _, rf⟩ := rep_slice Fx.nil Fx.cell wideF Try.underlying22 cells_fx (by decide) (fun cs' h' => by
      obtain ⟨x, hx, rfl⟩ := fx_cells h'
      refine ⟨x, hx, fun o ho => ?_⟩
      match o, ho with
      | 0, _ => exact ⟨_, rfl, rfl, by simp [Fx.cell, Rep]⟩
      | 1, _ => exact ⟨_, rfl, rfl, by simp [Fx.cell, Rep]⟩
      | 2, _ => exact ⟨_, rfl, rfl, by simp [Fx.cell, Rep]⟩) h0
    obtain ⟨c, v, e1, gc, wc, _, rc⟩ := rep_slice Ch.nil Ch.cell wideC Try.underlying23 cells_ch (by decide) (fun cs' h' => by
      obtain ⟨x, hx, rfl⟩ := ch_cells h'
      refine ⟨x, hx, fun o ho => ?_⟩
      match o, ho with
      | 0, _ => exact ⟨_, rfl, rfl, by simp [Ch.cell, Rep]⟩
      | 1, _ => exact ⟨_, rfl, rfl, by simp [Ch.cell, Rep]⟩
      | 2, _ => exact ⟨_, rfl, rfl, by simp [Ch.cell, Rep]⟩
      | 3, _ => exact ⟨_, rfl, rfl, by simp [Ch.cell, Rep]⟩) h1
    cases e0; cases e1
    have b1 : Try.prog.bytesOf 28 = 40 := by kernel_rfl
    have b2 : Try.prog.bytesOf 30 = 48 := by kernel_rfl
    rw [b1] at wf
    rw [b2] at wc
    exact ⟨f, c, _, _, rfl, gf, gc, wf, wc, rf, rc⟩
theorem walk {W : World} {v0 v1 v2 : List Value} (h0 : Tw Try.prog W 25 v0) (h1 : Tw Try.prog W 28 v1) (h2 : Tw Try.prog W 30 v2) :
    Calls Try.prog 3 #[.agg v0.toArray, .agg v1.toArray, .agg v2.toArray] W fun e W' => e = .returned (.bool true) ∧ Below W.heap.size W W' := by
  obtain ⟨f, c, u, v, rfl, gf, gc, wf, wc, rf, rc⟩ := env_cells h0
  obtain ⟨x, hx, rfl⟩ := fx_cells h1
  obtain ⟨y, hy, rfl⟩ := ch_cells h2
  have hr := reachBytes_lt
  have gf2 : ∀ j, j < f.length → hugeF (f.getD j Fx.nil) := fun j hj => by
    have := gf (f.getD j Fx.nil) (by simp [List.getD, hj])
    exact ⟨by have := this.1; omega, by have := this.2; omega⟩
  have gc2 : ∀ j, j < c.length → hugeC (c.getD j Ch.nil) := fun j hj => by
    have := gc (c.getD j Ch.nil) (by simp [List.getD, hj])
    exact ⟨by have := this.1; omega, by have := this.2; omega⟩
  refine law_calls (fn := Try.f3) (c := Try.f3.body.getD .skip) rfl rfl rfl law_ok (args := [envA f c, x.av, y.av]) (vals := [.agg #[u, v], .agg #[.string ⟨x.name.toArray⟩, .int .i64 x.date, .string ⟨x.value.toArray⟩], .agg #[.string ⟨y.party.toArray⟩, .string ⟨y.name.toArray⟩, .int .i64 y.date, .bool y.first]]) ?_ ?_
  · refine ⟨((f, c), x, y), ⟨?_, by show f.length < _; omega, by show c.length < _; omega, gf2, gc2⟩, ⟨true, rfl⟩, ?_⟩
    · simp [eqL, eqA, eqA0, eqL0, envA, fxS, chS, Fx.av, Ch.av, eqG_refl]
    · rintro _ rfl
      rfl
  · simp only [RepL, Rep, envA, Fx.av, Ch.av]
    refine ⟨_, _, rfl, ⟨[u, v], rfl, u, _, rfl, rf, v, _, rfl, rc, rfl⟩, _, _, rfl, ⟨_, rfl, _, _, rfl, rfl, _, _, rfl, rfl, _, _, rfl, rfl, rfl⟩, _, _, rfl, ⟨_, rfl, _, _, rfl, rfl, _, _, rfl, rfl, _, _, rfl, rfl, _, _, rfl, rfl, rfl⟩, rfl⟩
theorem own : ownKnob Try.prog.godebug = none := by kernel_rfl
theorem laid : laidOutB Try.prog = true := by kernel_rfl
theorem lifted (os : Os) (started : os.Started) (H : Type) (enc : TypeId × Value → H) :
    ReturnsInHanded {} Try.checked os 3 .any (Rows.observableEnvsSpec.pre6 enc Try.prog Try.f3 Rows.observableEnvsRow.domain false) (Rows.observableEnvsSpec.post enc Try.prog Try.f3 false true false false) := by
  refine returnsInHanded_of_change_sized (C := Try.checked) own started (by kernel_rfl) Try.func3
    (ChangeSpec.witness6 (enc := enc) (C := Try.checked) false ⟨#[], #[.agg #[.slice none 0 0, .slice none 0 0], .agg #[.string ⟨#[]⟩, .int .i64 0, .string ⟨#[]⟩], .agg #[.string ⟨#[]⟩, .string ⟨#[]⟩, .int .i64 0, .bool false]], []⟩ 8 (by kernel_rfl) (by kernel_rfl) (by kernel_rfl) (by kernel_rfl)) ?_
  intro W base args ds gs before hval0 hW hcnd hwt _
  have hval : ∀ (j : Nat) t v, Try.f3.params[j]? = some t → args[j]? = some v → Value.okWide Try.prog W .any base t v := hval0
  have hW' := hW
  obtain ⟨p, q, hA0, hV, rfl, hfz, hnd⟩ := hW
  have hA : DataW.TrodAll enc Try.prog W 0 (fun _ => true) true Try.f3.params.toList args.toList ds p := hA0
  rw [Try.params3] at hA hval
  obtain ⟨v0, vs0, d0, ds0, p0, q0, hargs, rfl, rfl, h0, r0⟩ := trodAll_cons hA
  obtain ⟨v1, vs1, d1, ds1, p1, q1, rfl, rfl, rfl, h1, r1⟩ := trodAll_cons r0
  obtain ⟨v2, vs2, d2, ds2, p2, q2, rfl, rfl, rfl, h2, r2⟩ := trodAll_cons r1
  obtain ⟨rfl, rfl, rfl⟩ := trodAll_nil r2
  obtain rfl : args = #[v0, v1, v2] := by cases args; simp_all
  obtain ⟨rfl, rfl⟩ := trodVars_none hV
  clear hA0 hval0
  simp only [List.append_nil] at hW' hwt
  have hw : ∀ (j : Nat) (t : TypeId) (d : DataW H), [25, 28, 30][j]? = some t → [d0, d1, d2][j]? = some d → ∀ n ∈ d.weights Try.prog t, n ≤ reachBytes := fun j t d ht hd n hn => by
    have := List.all_eq_true.1 hwt n (DataW.weights_mem_each (j := j) (t := t) (d := d) (by exact ht) (by exact hd) n hn)
    simpa using this
  obtain ⟨c0, rfl, _⟩ := okWide_struct Try.underlying25 (hval 0 25 v0 rfl rfl)
  obtain ⟨c1, rfl, _⟩ := okWide_struct Try.underlying28 (hval 1 28 v1 rfl rfl)
  obtain ⟨c2, rfl, _⟩ := okWide_struct Try.underlying30 (hval 2 30 v2 rfl rfl)
  have t0 : Tw Try.prog W 25 c0.toList := by
    obtain ⟨fuel, hf⟩ := h0
    exact ⟨H, enc, 0, fuel, d0, p0, by simpa [Value.cells] using hf, hw 0 _ d0 rfl rfl⟩
  have t1 : Tw Try.prog W 28 c1.toList := by
    obtain ⟨fuel, hf⟩ := h1
    exact ⟨H, enc, 0, fuel, d1, p1, by simpa [Value.cells] using hf, hw 1 _ d1 rfl rfl⟩
  have t2 : Tw Try.prog W 30 c2.toList := by
    obtain ⟨fuel, hf⟩ := h2
    exact ⟨H, enc, 0, fuel, d2, p2, by simpa [Value.cells] using hf, hw 2 _ d2 rfl rfl⟩
  have hlt : ∀ x ∈ p0 ++ (p1 ++ p2), x.block < W.heap.size := fun x hx => by simpa using hW'.lt x (by simpa using hx)
  have hcall := walk t0 t1 t2
  simp only [Array.toArray_toList] at hcall
  refine hcall.mono fun e W' ⟨he, hb⟩ => ?_
  subst he
  refine ⟨_, rfl, _, _, _, [], p0 ++ (p1 ++ p2), [], hW', trodAll_mk1 (shut_bool Try.underlying4 true), ?_, rfl, hb.frame _, fun h => by cases h⟩
  refine trodAll_mk3 (Below.trod laid (by kernel_rfl) (of_decide_eq_true (by kernel_rfl)) h0 hb fun x hx => hlt x (by simp [hx])) (Below.trod laid (by kernel_rfl) (of_decide_eq_true (by kernel_rfl)) h1 hb fun x hx => hlt x (by simp [hx])) (Below.trod laid (by kernel_rfl) (of_decide_eq_true (by kernel_rfl)) h2 hb fun x hx => hlt x (by simp [hx]))
theorem over : Rows.observableEnvsRow.holds Try.pinned (OpenSpec.ofChange Rows.observableEnvsSpec) :=
  OpenClaim.holds_of_wide 3 Try.f3 rfl rfl rfl rfl rfl rfl rfl ⟨rfl, rfl, rfl, rfl, rfl⟩ rfl rfl rfl rfl rfl (by kernel_rfl) Try.func3 (by kernel_rfl)
    (of_decide_eq_true (by kernel_rfl)) (by unfold Func.isWrapper; first | (rw [if_pos (by decide +kernel)]; kernel_rfl) | (rw [if_neg (by decide +kernel)]; exact ⟨rfl, rfl⟩))
    (fun os started H enc _ => lifted os started H enc)
theorem observableEnvs_holds : Rows.ObservableEnvsSaid := over
end Go.Proofs.Ytabhidbmlldadaa
end
