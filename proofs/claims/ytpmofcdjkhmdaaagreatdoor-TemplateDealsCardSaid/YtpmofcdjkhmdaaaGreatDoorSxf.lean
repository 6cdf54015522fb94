/- Part 6 of the proof. -/
import Derived.Test.YtpmofcdjkhmdaaaGreatDoorSxe
set_option linter.unusedVariables false
set_option linter.unusedSimpArgs false
set_option linter.unusedSectionVars false

/- Nil slices of a result, handed back as own empty ones. -/
section
namespace Go.Sx
variable [Stat]
section
variable {own own' O : Nat → Prop} {w w' : World} {σ σ' : List SE} {P : Program} {fn : Func}
def upA0 (d k : Nat) : AV → AV → Prop
 | .nils, .osl i _ off n => (d ≤ i ∧ i < d + k) ∧ off = 0 ∧ n = 0
 | a, b => a = b
def upL0 (d k : Nat) : List AV → List AV → Prop
 | [], [] => True
 | a :: l, b :: m => upA0 d k a b ∧ upL0 d k l m
 | _, _ => False
def upA1 (d k : Nat) : AV → AV → Prop
 | .agg l, .agg m => upL0 d k l m
 | a, b => upA0 d k a b
def upL1 (d k : Nat) : List AV → List AV → Prop
 | [], [] => True
 | a :: l, b :: m => upA1 d k a b ∧ upL1 d k l m
 | _, _ => False
def upA2 (d k : Nat) : AV → AV → Prop
 | .tup l, .tup m => upL1 d k l m
 | a, b => upA1 d k a b
def j9 (k : Nat) : List SE := List.replicate k ⟨none, 0⟩
theorem vA.mono {g : Nat} {vals : Array Value} {R R' : Value → World → Prop} (hR : ∀ v w', R v w' → R' v w') (h : vA P g vals w R) : vA P g vals w R' := by
 rcases h with ⟨h1, h2⟩ | ⟨v, w', h1, h2⟩
 ·exact .inl ⟨h1, h2.mono fun e w' ⟨v, he, hv⟩ => ⟨v, he, hR v w' hv⟩⟩
 ·exact .inr ⟨v, w', h1, hR v w' h2⟩
theorem qE {k i : Nat} {e : SE} (h : (σ ++ j9 k)[i]? = some e) : (i < σ.length ∧ σ[i]? = some e) ∨ (σ.length ≤ i ∧ e = ⟨none, 0⟩) := by
 rw [List.getElem?_append] at h
 split at h
 ·rename_i hi; exact .inl ⟨hi, h⟩
 ·rename_i hi
  right
  refine ⟨by omega, ?_⟩
  simp only [j9, List.getElem?_replicate] at h
  split at h
  ·cases h; rfl
  ·cases h
theorem ZP {k b : Nat} (h : Mine (σ ++ j9 k) b) : Mine σ b := by
 obtain ⟨e, he, ad, h1, h2⟩ := h
 rcases List.mem_append.1 he with he | he
 ·exact ⟨e, he, ad, h1, h2⟩
 ·have := List.eq_of_mem_replicate he
  subst this
  cases h1
theorem ub {k b : Nat} (h : Own O (σ ++ j9 k) b) : Own O σ b := by
 rcases h with h | h
 ·exact .inl h
 ·exact .inr (ZP h)
theorem vj (K : List Nat) (w : World) (σ : List SE) (k : Nat) : Hold K w σ w (σ ++ j9 k) := fun i e he _ => by
 have hi := (List.getElem?_eq_some_iff.1 he).1
 exact ⟨by rw [List.getElem?_append_left hi]; exact he, fun ad _ cs el h => ⟨cs, el, h, rfl⟩⟩
theorem J8 {k : Nat} (hx : Ext own w own' w) {a b : AV} {v : Value} (hu : upA0 σ.length k a b) (ha : Rep own w a σ v) : Rep own' w b (σ ++ j9 k) v := by
 unfold upA0 at hu
 split at hu
 ·obtain ⟨⟨h1, h2⟩, rfl, rfl⟩ := hu
  rename_i i sz _ _
  simp only [Rep] at ha ⊢
  refine ⟨⟨none, 0⟩, ?_, by simp, none, 0, ha, Nat.le_refl _, .inl rfl⟩
  rw [List.getElem?_append_right h1, j9, List.getElem?_replicate, if_pos (by omega)]
 ·subst hu
  exact zL (K := []) hx (vj [] w σ k) _ _ (qK _) ha
theorem Zw {k : Nat} (hx : Ext own w own' w) : ∀ {l m : List AV} {vs : List Value}, upL0 σ.length k l m → RepL own w l σ vs → RepL own' w m (σ ++ j9 k) vs
 | [], [], vs, _, h => by simpa [RepL] using h
 | a :: l, b :: m, vs, hl, h => by
  simp only [RepL] at h ⊢
  obtain ⟨v, r, hv, h1, h2⟩ := h
  exact ⟨v, r, hv, J8 hx hl.1 h1, Zw hx hl.2 h2⟩
 | [], _ :: _, _, hl, _ => hl.elim
 | _ :: _, [], _, hl, _ => hl.elim
theorem QM {k : Nat} (hx : Ext own w own' w) {a b : AV} {v : Value} (hu : upA1 σ.length k a b) (ha : Rep own w a σ v) : Rep own' w b (σ ++ j9 k) v := by
 unfold upA1 at hu
 split at hu
 ·simp only [Rep] at ha ⊢
  obtain ⟨vs, hv, hr⟩ := ha
  exact ⟨vs, hv, Zw hx hu hr⟩
 ·exact J8 hx hu ha
theorem xE {k : Nat} (hx : Ext own w own' w) : ∀ {l m : List AV} {vs : List Value}, upL1 σ.length k l m → RepL own w l σ vs → RepL own' w m (σ ++ j9 k) vs
 | [], [], vs, _, h => by simpa [RepL] using h
 | a :: l, b :: m, vs, hl, h => by
  simp only [RepL] at h ⊢
  obtain ⟨v, r, hv, h1, h2⟩ := h
  exact ⟨v, r, hv, QM hx hl.1 h1, xE hx hl.2 h2⟩
 | [], _ :: _, _, hl, _ => hl.elim
 | _ :: _, [], _, hl, _ => hl.elim
theorem Jg {k : Nat} (hx : Ext own w own' w) {a b : AV} {v : Value} (hu : upA2 σ.length k a b) (ha : Rep own w a σ v) : Rep own' w b (σ ++ j9 k) v := by
 unfold upA2 at hu
 split at hu
 ·simp only [Rep] at ha ⊢
  obtain ⟨vs, hv, hr⟩ := ha
  exact ⟨vs, hv, xE hx hu hr⟩
 ·exact QM hx hu ha
def vJ (szs : List (Nat × (Nat → Nat → AV))) : Heap := szs.map fun s => .arr 0 s.1 s.2
theorem zf8 (hx : Ext own w own' w) {hs : Heap} (hh : HRep own w σ hs) (szs : List (Nat × (Nat → Nat → AV))) : HRep own' w (σ ++ j9 szs.length) (hs ++ vJ szs) := by
 have hl := hh.len
 refine ⟨by simp [j9, vJ, hl], fun i j e f a b he hf ha hb hij => ?_, fun i e a he ha => ?_, fun i e b he hb => ?_⟩
 ·rcases qE he with ⟨_, he⟩ | ⟨_, rfl⟩
  ·rcases qE hf with ⟨_, hf⟩ | ⟨_, rfl⟩
   ·exact hh.inj i j e f a b he hf ha hb hij
   ·cases hb
  ·cases ha
 ·rcases qE he with ⟨_, he⟩ | ⟨_, rfl⟩
  ·exact hh.lt i e a he ha
  ·cases ha
 ·rcases qE he with ⟨hi, he⟩ | ⟨hi, rfl⟩
  ·rw [List.getElem?_append_left (by omega)] at hb
   have := qC (K := []) hx (vj [] w σ szs.length) (hh.blk i e b he hb) (fun _ _ => rfl)
   rwa [qR] at this
  ·rw [List.getElem?_append_right (by omega)] at hb
   simp only [vJ, List.getElem?_map] at hb
   cases hz : szs[i - hs.length]? with
   | none => simp [hz] at hb
   | some s =>
    simp only [hz, Option.map_some, Option.some.injEq] at hb
    subst hb
    exact ⟨rfl, .inl rfl⟩
def upQ (Q : AV × Heap → Prop) (p : AV × Heap) : Prop := Q p ∨ ∃ (r : AV) (szs : List (Nat × (Nat → Nat → AV))), upA2 p.2.length szs.length p.1 r ∧ Q (r, p.2 ++ vJ szs)
theorem jg.up {g : Nat} {c : Ctr} {args : List AV} {hc : Heap} {Q : AV × Heap → Prop} (h : jg P g c args hc (upQ Q)) : jg P g c args hc Q := by
 intro O w σ vals hg hh hr
 refine vA.mono ?_ (h O w σ vals hg hh hr)
 rintro v w' ⟨r, hs, σ', hq, h1, h2, h3, h4, h5, h6⟩
 rcases hq with hq | ⟨r', szs, hu, hq⟩
 ·exact ⟨r, hs, σ', hq, h1, h2, h3, h4, h5, h6⟩
 ·have hx : Ext (fun b => Own O σ' b ∨ (c.fresh = true ∧ b < w.heap.size)) w' (fun b => Own O (σ' ++ j9 szs.length) b ∨ (c.fresh = true ∧ b < w.heap.size)) w' :=
   ⟨rfl, rfl, rfl, Nat.le_refl _, fun _ _ _ => rfl, fun b hb => .inl (hb.imp ub id)⟩
  have hl : hs.length = σ'.length := h2.len.symm
  refine ⟨r', hs ++ vJ szs, σ' ++ j9 szs.length, hq, Jg hx (by rw [← hl]; exact hu) h1, zf8 hx h2 szs, ⟨h3.old, fun i e ad he had => ?_, h3.stat.own fun b hb => ub hb⟩, by simp; omega, h5.VZ (vj [] w' σ' _), ?_⟩
  ·rcases qE he with ⟨_, he⟩ | ⟨_, rfl⟩
   ·exact h3.dis i e ad he had
   ·cases had
  ·exact ⟨h6.os, h6.tape, h6.output, h6.size, h6.keep, fun b hb => h6.grow b (ZP hb)⟩
theorem za7 {X R : Type} {fresh : Bool} {inp : X → List AV} {pre : X → Prop} {post : X → R → Prop} {out : X → R → AV × Heap} {g : Nat} {c : Code} (hf : P.funcs[g]? = some fn) (hb : fn.body = some c) (hn : (fn.name == "runtime.NumGoroutine") = false)
  (H : ∀ x, pre x → ∀ (O : Nat → Prop) (w0 : World) (Q : AV × Heap → Prop), (∀ r, post x r → Q (out x r)) →
   zc P fn O 0 w0 [] (fun _ _ _ => False) (RetR (ctrP fresh inp pre post out) 0 (upQ Q)) [.code c] (entry fn (inp x))) : zd P g (ctrP fresh inp pre post out) := by
 intro args hc Q hq _
 simp only [ctrP] at hq
 split at hq
 ·obtain ⟨x, ⟨h1, h4⟩, h5, h6⟩ := hq
  refine jg.le h1 (jg.up (fn_k hf hb hn (fun h => rfl) fun O w0 σ0 hl => ?_))
  have h0 : σ0 = [] := List.length_eq_zero_iff.1 (by simpa using hl)
  subst h0
  exact H x h4 O w0 Q h6
 ·exact hq.elim
def upKV (d k : Nat) : KV → KV → Prop
 | [], [] => True
 | (i, a) :: l, (j, b) :: m => i = j ∧ upA2 d k a b ∧ upKV d k l m
 | _, _ => False
def upB (d k : Nat) : Blk → Blk → Prop
 | .box l, .box m => upL1 d k l m
 | a, b => a = b
def upH (d k : Nat) : Heap → Heap → Prop
 | [], [] => True
 | b :: l, c :: m => upB d k b c ∧ upH d k l m
 | _, _ => False
theorem QU {d k : Nat} : ∀ {l m : KV} (t : Nat), upKV d k l m → upA2 d k (look l t) (look m t)
 | [], [], t, _ => by simp [look, upA2, upA1, upA0]
 | (i, a) :: l, (j, b) :: m, t, h => by
  obtain ⟨rfl, h1, h2⟩ := h
  simp only [look]
  split
  ·exact h1
  ·exact QU t h2
 | [], _ :: _, _, h => h.elim
 | _ :: _, [], _, h => h.elim
theorem XC {d k : Nat} : ∀ {l m : Heap}, upH d k l m → l.length = m.length
 | [], [], _ => rfl
 | _ :: l, _ :: m, h => by simp [XC h.2]
 | [], _ :: _, h => h.elim
 | _ :: _, [], h => h.elim
theorem Yq {d k : Nat} : ∀ {l m : Heap} {i : Nat} {b' : Blk}, upH d k l m → m[i]? = some b' → ∃ b, l[i]? = some b ∧ upB d k b b'
 | b :: l, c :: m, 0, b', h, h1 => by simp at h1; subst h1; exact ⟨b, rfl, h.1⟩
 | b :: l, c :: m, i + 1, b', h, h1 => by simpa using Yq h.2 (by simpa using h1)
 | [], [], _, _, _, h1 => by simp at h1
 | [], _ :: _, _, _, h, _ => h.elim
 | _ :: _, [], _, _, h, _ => h.elim
theorem Uc {k : Nat} (hx : Ext own w own' w) {e : SE} {b b' : Blk} (hu : upB σ.length k b b') (hb : BRep own w σ e b) : BRep own' w (σ ++ j9 k) e b' := by
 unfold upB at hu
 split at hu
 ·simp only [BRep] at hb ⊢
  obtain ⟨ad, vs, el, h1, h2, h3, h4⟩ := hb
  exact ⟨ad, vs, el, h1, h2, h3, xE hx hu h4⟩
 ·subst hu
  have := qC (K := []) hx (vj [] w σ k) hb (fun _ _ => rfl)
  rwa [qR] at this
variable {pin : Nat} {w0 : World} {σ0 : List SE} {a : Act}
theorem up_mod {kv kv2 : KV} {h h2 : Heap} {n : Nat} (hm : Mod O pin w0 σ0 w σ (mk n kv h) a) {szs : List (Nat × (Nat → Nat → AV))} (hkv : upKV h.length szs.length kv kv2) (hh2 : upH h.length szs.length h h2) (hno : (pk n kv).all zB = true) (hno2 : (pk n kv2).all zB = true) : Mod O pin w0 σ0 w (σ ++ j9 szs.length) (mk n kv2 (h2 ++ vJ szs)) a := by
 have hx : Ext (Own O σ) w (Own O (σ ++ j9 szs.length)) w := ⟨rfl, rfl, rfl, Nat.le_refl _, fun _ _ _ => rfl, fun b hb => .inl (ub hb)⟩
 have hl : h.length = σ.length := hm.hp.len.symm
 rw [hl] at hkv hh2
 have hl2 := XC hh2
 refine ⟨⟨hm.good.old, fun i e ad he had => ?_, hm.good.stat.ext hx⟩, ?_, by simp [hm.size, mk, pk], fun u => ?_, hm.df.ext hx, hm.since.trans ⟨hx, fun _ _ _ => rfl, wj.of (vj [] w σ _) (by simp)⟩, hm.lim⟩
 ·rcases qE he with ⟨_, he⟩ | ⟨_, rfl⟩
  ·exact hm.good.dis i e ad he had
  ·cases had
 ·have hh := hm.hp
  refine ⟨by simp [mk, j9, vJ, ← hl2, hl], fun i j e f x y he hf ha hb hij => ?_, fun i e x he ha => ?_, fun i e b he hb => ?_⟩
  ·rcases qE he with ⟨_, he⟩ | ⟨_, rfl⟩
   ·rcases qE hf with ⟨_, hf⟩ | ⟨_, rfl⟩
    ·exact hh.inj i j e f x y he hf ha hb hij
    ·cases hb
   ·cases ha
  ·rcases qE he with ⟨_, he⟩ | ⟨_, rfl⟩
   ·exact hh.lt i e x he ha
   ·cases ha
  ·simp only [mk] at hb
   rcases qE he with ⟨hi, he⟩ | ⟨hi, rfl⟩
   ·rw [List.getElem?_append_left (by omega)] at hb
    obtain ⟨b0, h1, h3⟩ := Yq hh2 hb
    exact Uc hx h3 (hh.blk i e b0 he h1)
   ·rw [List.getElem?_append_right (by omega)] at hb
    simp only [vJ, List.getElem?_map] at hb
    cases hz : szs[i - h2.length]? with
    | none => simp [hz] at hb
    | some s =>
     simp only [hz, Option.map_some, Option.some.injEq] at hb
     subst hb
     exact ⟨rfl, .inl rfl⟩
 ·have hu := hm.tm u
  have key : ∀ (kv : KV) (h : Heap), (pk n kv).all zB = true → zB ((mk n kv h).tmps.getD u .undef) = true := by
   intro kv h hno
   by_cases hlt : u < (mk n kv h).tmps.length
   ·simp only [List.getD, List.getElem?_eq_getElem hlt, Option.getD_some]
    exact List.all_eq_true.1 hno _ (List.getElem_mem hlt)
   ·simp only [List.getD]
    rw [List.getElem?_eq_none (by omega)]; rfl
  have n1 := key kv h hno
  have n2 := key kv2 (h2 ++ vJ szs) hno2
  have hr : Rep (Own O σ) w ((mk n kv h).tmps.getD u .undef) σ (a.tmps.getD u undef) := by
   generalize (mk n kv h).tmps.getD u .undef = x at hu n1
   cases x with
   | opt _ _ _ => simp [zB] at n1
   | _ => simpa only [TRep] using hu
  have hup : upA2 σ.length szs.length ((mk n kv h).tmps.getD u .undef) ((mk n kv2 (h2 ++ vJ szs)).tmps.getD u .undef) := by
   by_cases hlt : u < n
   ·simp only [mk]
    rw [jk hlt, jk hlt]
    exact QU u hkv
   ·simp [mk, pk, List.getD, hlt, upA2, upA1, upA0]
  have := Jg hx hup hr
  generalize (mk n kv2 (h2 ++ vJ szs)).tmps.getD u .undef = y at this n2
  cases y with
  | opt _ _ _ => simp [zB] at n2
  | _ => simpa only [TRep] using this
theorem zc.up {M : Option Nat} {Hs : Nat → KV → Heap → Prop} {R : List AV → Heap → Prop} {k : List Item} {kv : KV} {h : Heap} (szs : List (Nat × (Nat → Nat → AV))) (kv2 : KV) (h2 : Heap) (hkv : upKV h.length szs.length kv kv2) (hh2 : upH h.length szs.length h h2) (hno : (pk fn.ntmps kv).all zB = true) (hno2 : (pk fn.ntmps kv2).all zB = true)
  (H : z3 M P fn O pin w0 σ0 Hs R k (mk fn.ntmps kv2 (h2 ++ vJ szs))) : z3 M P fn O pin w0 σ0 Hs R k (mk fn.ntmps kv h) :=
 fun w σ a hm => H w _ a (up_mod hm hkv hh2 hno hno2)
theorem RetR.outs {ctr : Ctr} {Q : AV × Heap → Prop} {rs : List AV} {h : Heap} {r : AV} {hs : Heap} (L : List Nat) (hnd : jA L = true) (hlt : (L.all fun i => decide (i < h.length)) = true) (hq : Q (r, hs)) (hn : ctr.fresh = true → new2 h L (resV rs) ∧ ∀ i ∈ L, newB (h.getD i .dead))
  (he : eqA2 (exp2 h L (resV rs)) r) (hb : eqH (expH h L) hs) (hl : hs.length = L.length) : RetR ctr 0 Q rs h :=
 ⟨L, hnd, fun i hi => by have := List.all_eq_true.1 hlt i hi; simpa using this, by simp, hn, r, hs, qk he, hb, hl, hq⟩
theorem RetR.keep {ctr : Ctr} {m : Nat} {Q : AV × Heap → Prop} {rs : List AV} {h : Heap} {r : AV} {hs : Heap} (L : List Nat) (hnd : jA L = true) (hlt : (L.all fun i => decide (i < h.length)) = true) (hj : ∀ j, j < m → L[j]? = some j) (hf : ctr.fresh = false) (hq : Q (r, hs))
  (he : eqA2 (exp2 h L (resV rs)) r) (hb : eqH (expH h L) hs) (hl : hs.length = L.length) : RetR ctr m Q rs h :=
 ⟨L, hnd, fun i hi => by have := List.all_eq_true.1 hlt i hi; simpa using this, hj, (fun hh => absurd hh (by rw [hf]; decide)), r, hs, qk he, hb, hl, hq⟩
end
end Go.Sx
end

/- Expressions: copies. -/
section
set_option maxRecDepth 100000
open Go Go.Sx Go.Proofs Go.Nov
namespace Go.Proofs.Tryz
attribute [local simp] eqKV eqA eqA0 eqH eqB eqL eqL0
noncomputable def K214 : List Go.Sx.Item := [.code (Tryz.f214.body.getD .skip)]
noncomputable def K104 : List Go.Sx.Item := [.code (Tryz.f104.body.getD .skip)]
def exD (x : Ex) : AV := .agg [.int .u8 x.kind, .str x.rat, .str x.name, .int .i64 x.date, .sl x.sub.length 5 x.deep]
def Zm (n : Nat) : Ctr := ctrP false (fun x : Ex => [x.exA]) (fun x => x.size < n ∧ x.size < 2 ^ 40) (fun _ (_ : Unit) => True) (fun x _ => (exD x, []))
theorem WE {s : List Ex} {i : Nat} : eqG (i + 1) 5 (appG i (Ex.exG s) (zi (zj 5 [.int .u8 (s.getD i Ex.nil).kind, .str (s.getD i Ex.nil).rat, .str (s.getD i Ex.nil).name, .int .i64 (s.getD i Ex.nil).date, .sl (s.getD i Ex.nil).sub.length 5 (s.getD i Ex.nil).deep]) 0)) (Ex.exG s) := by
 intro j o hj ho
 simp only [appG, zi, zj]
 by_cases h : j < i
 ·rw [if_pos h]
 ·have : j = i := by omega
  subst this
  rw [if_neg h]
  have e : j - j = 0 := by omega
  match o, ho with
  | 0, _ => simp [e, Ex.exG, Ex.cell]
  | 1, _ => simp [e, Ex.exG, Ex.cell]
  | 2, _ => simp [e, Ex.exG, Ex.cell]
  | 3, _ => simp [e, Ex.exG, Ex.cell]
  | 4, _ => simp [e, Ex.exG, Ex.cell]
def STw (s : List Ex) (i : Nat) : KV := [(1, .ptr 0 0), (2, .ptr 1 0), (3, .osl 2 5 0 i), (7, Ex.exS s), (8, .int .i64 (s.length : Int)), (9, .int .i64 (i : Int))]
def HTw (x : Ex) (i : Nat) : Heap := [.box [.int .u8 x.kind, .str x.rat, .str x.name, .int .i64 x.date, Ex.exS x.sub], .box [.int .u8 0, .str [], .str [], .int .i64 0, .nils], .arr i 5 (Ex.exG x.sub)]
def RTw (x : Ex) : List AV := [.agg [.int .u8 x.kind, .str x.rat, .str x.name, .int .i64 x.date, .osl 2 5 0 x.sub.length]]
def HTw2 (x : Ex) : Heap := [.box [.int .u8 x.kind, .str x.rat, .str x.name, .int .i64 x.date, .osl 2 5 0 x.sub.length], .box [.int .u8 x.kind, .str x.rat, .str x.name, .int .i64 x.date, .osl 2 5 0 x.sub.length], .arr x.sub.length 5 (Ex.exG x.sub)]
theorem zcc (n : Nat) (ih : zd Tryz.prog 214 (Zm n)) {O : Nat → Prop} {w0 : World} {C : Ctr} {Q : AV × Heap → Prop} (x : Ex) (h1 : x.size < n + 1) (h2 : x.size < 2 ^ 40) (hR : RetR C 0 Q (RTw x) (HTw2 x)) :
  zc Tryz.prog Tryz.f214 O 0 w0 [] (fun _ _ _ => False) (RetR C 0 Q) K214 (entry Tryz.f214 [x.exA]) := by
 rw [Ex.size_eq] at h1 h2
 have hlen := Ex.zC x.sub
 refine zc.run hmix (w6 ih) [1, 2, 3, 7, 8, 9] 400 (T := .leaf (.loop (Prod.fst (lps K214 0)) (Prod.snd (lps K214 0)) [(1, .ptr 0 0), (2, .ptr 1 0), (3, .nils), (7, .sl x.sub.length 5 (Ex.exG x.sub)), (8, .int .i64 x.sub.length), (9, .int .i64 0)] [.box [.int .u8 x.kind, .str x.rat, .str x.name, .int .i64 x.date, .sl x.sub.length 5 (Ex.exG x.sub)], .box [.int .u8 0, .str (Array.toList #[]), .str (Array.toList #[]), .int .i64 0, .nils]])) (by kernel_rfl) ?_
 simp only [Tree.holds, ze, inR, lo, hi, Int.toNat_natCast]
 refine zc.bear 3 5 (Ex.exG x.sub) rfl (by decide) (by kernel_rfl) ?_
 refine zc.loop (ι := {i : Nat // i ≤ x.sub.length}) (fun i => STw x.sub i.1) (fun i => HTw x i.1) (fun i => x.sub.length - i.1) ⟨0, Nat.zero_le _⟩ 0 ?_ ?_ (by kernel_rfl)
 ·exact ⟨by simp [STw, kx, Ex.exS, za], by simp [HTw, Ex.exS, za], by kernel_rfl, Nat.zero_le _⟩
 ·rintro ⟨i, hil⟩
  refine zc.run hmix (w6 ih) [1, 2, 3, 7, 8, 9] 400 (T := .ite (decide ((↑i : Int) < x.sub.length)) (.side ((0 : Int) ≤ i ∧ (↑i : Int) < x.sub.length) (.ex (fun (x_1 : Ex) => eqL [AV.agg [AV.int .u8 (Ex.kind (List.getD x.sub (Int.toNat (↑i : Int)) Ex.nil)), AV.str (Ex.rat (List.getD x.sub (Int.toNat (↑i : Int)) Ex.nil)), AV.str (Ex.name (List.getD x.sub (Int.toNat (↑i : Int)) Ex.nil)), AV.int .i64 (Ex.date (List.getD x.sub (Int.toNat (↑i : Int)) Ex.nil)), AV.sl (List.length (Ex.sub (List.getD x.sub (Int.toNat (↑i : Int)) Ex.nil))) 5 (Ex.deep (List.getD x.sub (Int.toNat (↑i : Int)) Ex.nil))]] [AV.agg [AV.int .u8 x_1.kind, AV.str x_1.rat, AV.str x_1.name, AV.int .i64 x_1.date, AV.sl x_1.sub.length 5 (Ex.exG x_1.sub)]] ∧ Ex.size x_1 < n ∧ Ex.size x_1 < 1099511627776) fun n => .all (fun (x : Unit) => True) fun n_1 => .side (0 = 0 ∧ i ≤ i ∧ (i + 1) * 72 ≤ 140737488355328) (.side (inR .i64 ((↑i : Int) + (1 : Int))) (.leaf (.back 0 [(1, .ptr 0 0), (2, .ptr 1 0), (3, .osl 2 5 0 (i + 1)), (7, .sl x.sub.length 5 (Ex.exG x.sub)), (8, .int .i64 x.sub.length), (9, .int .i64 ((↑i : Int) + (1 : Int)))] [.box [.int .u8 x.kind, .str x.rat, .str x.name, .int .i64 x.date, .sl x.sub.length 5 (Ex.exG x.sub)], .box [.int .u8 0, .str [], .str [], .int .i64 0, .nils], .arr (i + 1) 5 (appG i (Ex.exG x.sub) (zi (zj 5 [.int .u8 n.kind, .str n.rat, .str n.name, .int .i64 n.date, .sl n.sub.length 5 n.deep]) 0)), .box [.int .u8 (Ex.kind (List.getD x.sub (Int.toNat (↑i : Int)) Ex.nil)), .str (Ex.rat (List.getD x.sub (Int.toNat (↑i : Int)) Ex.nil)), .str (Ex.name (List.getD x.sub (Int.toNat (↑i : Int)) Ex.nil)), .int .i64 (Ex.date (List.getD x.sub (Int.toNat (↑i : Int)) Ex.nil)), .sl (List.length (Ex.sub (List.getD x.sub (Int.toNat (↑i : Int)) Ex.nil))) 5 (Ex.deep (List.getD x.sub (Int.toNat (↑i : Int)) Ex.nil))], .arr 1 5 (zj 5 [.int .u8 n.kind, .str n.rat, .str n.name, .int .i64 n.date, .sl n.sub.length 5 n.deep])]))))) (.leaf (.ret [.agg [.int .u8 x.kind, .str x.rat, .str x.name, .int .i64 x.date, .osl 2 5 0 i]] [.box [.int .u8 x.kind, .str x.rat, .str x.name, .int .i64 x.date, .osl 2 5 0 i], .box [.int .u8 x.kind, .str x.rat, .str x.name, .int .i64 x.date, .osl 2 5 0 i], .arr i 5 (Ex.exG x.sub)]))) (by kernel_rfl) ?_
  simp only [Tree.holds, ze, inR, lo, hi, Int.toNat_natCast]
  refine ⟨fun hlt => ?_, fun hge => ?_⟩
  ·have hlt : i < x.sub.length := by have := of_decide_eq_true hlt; omega
   have hg := Ex.qo hlt
   refine ⟨by omega, fun _ => ⟨x.sub.getD i Ex.nil, ⟨jV rfl rfl rfl rfl rfl (Ex.z9 _), by omega, by omega⟩, ⟨(), trivial⟩, ?_⟩⟩
   intro _ _
   refine ⟨⟨trivial, Nat.le_refl _, by omega⟩, fun _ => ⟨by omega, fun _ => ?_⟩⟩
   rw [if_pos trivial]
   refine ⟨⟨i + 1, hlt⟩, by show x.sub.length - (i + 1) < x.sub.length - i; omega, by simp [STw, Ex.exS, za], ?_, by kernel_rfl, Nat.zero_le _⟩
   exact ⟨⟨⟨rfl, rfl⟩, rfl, rfl, ⟨rfl, rfl⟩, ⟨rfl, rfl, za _ _ _⟩, trivial⟩, ⟨⟨rfl, rfl⟩, rfl, rfl, ⟨rfl, rfl⟩, by simp, trivial⟩, ⟨rfl, rfl, WE⟩, trivial⟩
  ·have hge : i = x.sub.length := by have := of_decide_eq_false hge; omega
   subst hge
   exact hR
theorem V9 {C : Ctr} {Q : AV × Heap → Prop} {x : Ex} {h : Heap} {b : Nat} (hC : C.fresh = false) (hb : h[b]? = some (.arr x.sub.length 5 (Ex.exG x.sub))) (hq : Q (exD x, [])) : RetR C 0 Q [.agg [.int .u8 x.kind, .str x.rat, .str x.name, .int .i64 x.date, .osl b 5 0 x.sub.length]] h := by
 refine RetR.out0 hq (fun h => by rw [hC] at h; cases h) ?_
 simp only [resV, exp2, exp1, List.map_cons, List.map_nil, exp0, ren0, zA, frz1, jd, hb, eqA2, eqA, eqL0, eqA0, exD, true_and, and_true]
 simp only [if_true]
 refine ⟨trivial, trivial, fun j o hj ho => ?_⟩
 have := Ex.z9 x j o hj ho
 simpa [zi] using this.symm
theorem UI (n : Nat) (ih : zd Tryz.prog 214 (Zm n)) : zd Tryz.prog 214 (Zm (n + 1)) := by
 refine zk (fn := Tryz.f214) (c := Tryz.f214.body.getD .skip) rfl rfl rfl fun x hx O w0 Q hq => ?_
 exact zcc n ih x hx.1 hx.2 (V9 rfl rfl (hq () trivial))
theorem zbg : zd Tryz.prog 214 (ctrP false (fun x : Ex => [x.exA]) (fun x => x.size < 2 ^ 40) (fun _ (_ : Unit) => True) (fun x _ => (exD x, []))) := zO Ex.size UI
def SRt (i : Nat) : KV := [(1, .ptr 0 0), (2, .ptr 1 0), (3, .ptr 2 0), (4, .int .i64 (i : Int))]
def HRt1 (x : Ex) : Heap := [.box [.int .u8 x.kind, .str x.rat, .str x.name, .int .i64 x.date, Ex.exS x.sub], .box [.int .u8 0, .str [], .str [], .int .i64 0, .nils], .box [.int .u8 x.kind, .str x.rat, .str x.name, .int .i64 x.date, .osl 3 5 0 0]]
def HRt (x : Ex) (i : Nat) : Heap := [.box [.int .u8 x.kind, .str x.rat, .str x.name, .int .i64 x.date, Ex.exS x.sub], .box [.int .u8 0, .str [], .str [], .int .i64 0, .nils], .box [.int .u8 x.kind, .str x.rat, .str x.name, .int .i64 x.date, .osl 3 5 0 i], .arr i 5 (Ex.exG x.sub)]
theorem KL (n : Nat) (ih : zd Tryz.prog 104 (Zm n)) : zd Tryz.prog 104 (Zm (n + 1)) := by
 refine zk (fn := Tryz.f104) (c := Tryz.f104.body.getD .skip) rfl rfl rfl fun x hx O w0 Q hq => ?_
 obtain ⟨h1, h2⟩ := hx
 replace hq := hq () trivial
 rw [Ex.size_eq] at h1 h2
 have hlen := Ex.zC x.sub
 refine zc.run hmix (w6 ih) [1, 2, 3, 4] 400 (T := .leaf (.loop (Prod.fst (lps K104 0)) (Prod.snd (lps K104 0)) [(1, .ptr 0 0), (2, .ptr 1 0), (3, .ptr 2 0), (4, .int .i64 0)] [.box [.int .u8 x.kind, .str x.rat, .str x.name, .int .i64 x.date, .sl x.sub.length 5 (Ex.exG x.sub)], .box [.int .u8 0, .str (Array.toList #[]), .str (Array.toList #[]), .int .i64 0, .nils], .box [.int .u8 x.kind, .str x.rat, .str x.name, .int .i64 x.date, .nils]])) (by kernel_rfl) ?_
 simp only [Tree.holds, ze, inR, lo, hi, Int.toNat_natCast]
 refine zc.up [(5, Ex.exG x.sub)] (SRt 0) (HRt1 x) (by simp [SRt, upKV, upA2, upA1, upA0]) (by simp [HRt1, upH, upB, upL1, upA1, upA0, Ex.exS]) (by kernel_rfl) (by kernel_rfl) ?_
 refine zc.loop (ι := {i : Nat // i ≤ x.sub.length}) (fun i => SRt i.1) (fun i => HRt x i.1) (fun i => x.sub.length - i.1) ⟨0, Nat.zero_le _⟩ 0 ?_ ?_ (by kernel_rfl)
 ·exact ⟨by simp [SRt], by simp [HRt, HRt1, vJ, Ex.exS, za], by kernel_rfl, Nat.zero_le _⟩
 ·rintro ⟨i, hil⟩
  refine zc.run hmix (w6 ih) [1, 2, 3, 4] 400 (T := .ite (decide ((↑i : Int) < x.sub.length)) (.side ((0 : Int) ≤ i ∧ (↑i : Int) < x.sub.length) (.ex (fun (x_1 : Ex) => eqL [AV.agg [AV.int .u8 (Ex.kind (List.getD x.sub (Int.toNat (↑i : Int)) Ex.nil)), AV.str (Ex.rat (List.getD x.sub (Int.toNat (↑i : Int)) Ex.nil)), AV.str (Ex.name (List.getD x.sub (Int.toNat (↑i : Int)) Ex.nil)), AV.int .i64 (Ex.date (List.getD x.sub (Int.toNat (↑i : Int)) Ex.nil)), AV.sl (List.length (Ex.sub (List.getD x.sub (Int.toNat (↑i : Int)) Ex.nil))) 5 (Ex.deep (List.getD x.sub (Int.toNat (↑i : Int)) Ex.nil))]] [AV.agg [AV.int .u8 x_1.kind, AV.str x_1.rat, AV.str x_1.name, AV.int .i64 x_1.date, AV.sl x_1.sub.length 5 (Ex.exG x_1.sub)]] ∧ Ex.size x_1 < n ∧ Ex.size x_1 < 1099511627776) fun n => .all (fun (x : Unit) => True) fun n_1 => .side (0 = 0 ∧ i ≤ i ∧ (i + 1) * 72 ≤ 140737488355328) (.side (inR .i64 ((↑i : Int) + (1 : Int))) (.leaf (.back 0 [(1, .ptr 0 0), (2, .ptr 1 0), (3, .ptr 2 0), (4, .int .i64 ((↑i : Int) + (1 : Int)))] [.box [.int .u8 x.kind, .str x.rat, .str x.name, .int .i64 x.date, .sl x.sub.length 5 (Ex.exG x.sub)], .box [.int .u8 0, .str [], .str [], .int .i64 0, .nils], .box [.int .u8 x.kind, .str x.rat, .str x.name, .int .i64 x.date, .osl 3 5 0 (i + 1)], .arr (i + 1) 5 (appG i (Ex.exG x.sub) (zi (zj 5 [.int .u8 n.kind, .str n.rat, .str n.name, .int .i64 n.date, .sl n.sub.length 5 n.deep]) 0)), .arr 1 5 (zj 5 [.int .u8 n.kind, .str n.rat, .str n.name, .int .i64 n.date, .sl n.sub.length 5 n.deep])]))))) (.leaf (.ret [.agg [.int .u8 x.kind, .str x.rat, .str x.name, .int .i64 x.date, .osl 3 5 0 i]] [.box [.int .u8 x.kind, .str x.rat, .str x.name, .int .i64 x.date, .sl x.sub.length 5 (Ex.exG x.sub)], .box [.int .u8 x.kind, .str x.rat, .str x.name, .int .i64 x.date, .osl 3 5 0 i], .box [.int .u8 x.kind, .str x.rat, .str x.name, .int .i64 x.date, .osl 3 5 0 i], .arr i 5 (Ex.exG x.sub)]))) (by kernel_rfl) ?_
  simp only [Tree.holds, ze, inR, lo, hi, Int.toNat_natCast]
  refine ⟨fun hlt => ?_, fun hge => ?_⟩
  ·have hlt : i < x.sub.length := by have := of_decide_eq_true hlt; omega
   have hg := Ex.qo hlt
   refine ⟨by omega, fun _ => ⟨x.sub.getD i Ex.nil, ⟨jV rfl rfl rfl rfl rfl (Ex.z9 _), by omega, by omega⟩, ⟨(), trivial⟩, ?_⟩⟩
   intro _ _
   refine ⟨⟨trivial, Nat.le_refl _, by omega⟩, fun _ => ⟨by omega, fun _ => ?_⟩⟩
   rw [if_pos trivial]
   refine ⟨⟨i + 1, hlt⟩, by show x.sub.length - (i + 1) < x.sub.length - i; omega, by simp [SRt], ?_, by kernel_rfl, Nat.zero_le _⟩
   exact ⟨⟨⟨rfl, rfl⟩, rfl, rfl, ⟨rfl, rfl⟩, ⟨rfl, rfl, za _ _ _⟩, trivial⟩, ⟨⟨rfl, rfl⟩, rfl, rfl, ⟨rfl, rfl⟩, by simp, trivial⟩, ⟨⟨rfl, rfl⟩, rfl, rfl, ⟨rfl, rfl⟩, ⟨rfl, rfl, rfl, rfl⟩, trivial⟩, ⟨rfl, rfl, WE⟩, trivial⟩
  ·have hge : i = x.sub.length := by have := of_decide_eq_false hge; omega
   subst hge
   exact V9 rfl rfl hq
def Zl : Ctr := ctrP false (fun x : Ex => [x.exA]) (fun x => x.size < 2 ^ 40) (fun _ (_ : Unit) => True) (fun x _ => (exD x, []))
theorem Uo : zd Tryz.prog 104 Zl := zO Ex.size KL
end Go.Proofs.Tryz
end

/- Contracts: size. -/
section
set_option maxRecDepth 100000
open Go Go.Sx Go.Proofs Go.Nov
namespace Go.Proofs.Tryz
attribute [local simp] eqKV eqA eqA0 eqH eqB eqL eqL0
noncomputable def K118 : List Go.Sx.Item := [.code (Tryz.f118.body.getD .skip)]
def uy : Ctr := ctrP true (fun x : Ex => [x.exA]) (fun _ => True) (fun x r => r = qt x) (fun _ (r : Bool) => (.bool r, []))
theorem JA : zd Tryz.prog 204 uy := by
 refine zk (fn := Tryz.f204) (c := Tryz.f204.body.getD .skip) rfl rfl rfl fun x hx O w0 Q hq => ?_
 replace hq := hq _ rfl
 obtain ⟨k, r, m, d, s⟩ := x
 refine zc.run hmix zy [] 400 (T := .leaf (.ret [.bool (bif bif bif bif decide (Ex.kind (Ex.mk k r m d s) = (0 : Int)) then decide (Ex.rat (Ex.mk k r m d s) = Array.toList #[]) else false then decide (Ex.name (Ex.mk k r m d s) = Array.toList #[]) else false then decide (Ex.date (Ex.mk k r m d s) = (0 : Int)) else false then decide ((↑(List.length (Ex.sub (Ex.mk k r m d s))) : Int) = 0) else false)] [.box [.int .u8 (Ex.kind (Ex.mk k r m d s)), .str (Ex.rat (Ex.mk k r m d s)), .str (Ex.name (Ex.mk k r m d s)), .int .i64 (Ex.date (Ex.mk k r m d s)), .sl (List.length (Ex.sub (Ex.mk k r m d s))) 5 (Ex.exG (Ex.sub (Ex.mk k r m d s)))]])) (by kernel_rfl) ?_
 simp only [Tree.holds, ze]
 refine RetR.scal hq rfl ?_
 refine congrArg AV.bool ?_
 rw [Bool.eq_iff_iff]
 simp [qt, Ex.kind, Ex.rat, Ex.name, Ex.date, Ex.sub, and_assoc]
theorem Qn : zd Tryz.prog 213 uy := by
 refine zk (fn := Tryz.f213) (c := Tryz.f213.body.getD .skip) rfl rfl rfl fun x hx O w0 Q hq => ?_
 replace hq := hq _ rfl
 obtain ⟨k, r, m, d, s⟩ := x
 refine zc.run hmix zy [] 400 (T := .leaf (.ret [.bool (bif bif bif bif decide (Ex.kind (Ex.mk k r m d s) = (0 : Int)) then decide (Ex.rat (Ex.mk k r m d s) = Array.toList #[]) else false then decide (Ex.name (Ex.mk k r m d s) = Array.toList #[]) else false then decide (Ex.date (Ex.mk k r m d s) = (0 : Int)) else false then decide ((↑(List.length (Ex.sub (Ex.mk k r m d s))) : Int) = 0) else false)] [.box [.int .u8 (Ex.kind (Ex.mk k r m d s)), .str (Ex.rat (Ex.mk k r m d s)), .str (Ex.name (Ex.mk k r m d s)), .int .i64 (Ex.date (Ex.mk k r m d s)), .sl (List.length (Ex.sub (Ex.mk k r m d s))) 5 (Ex.exG (Ex.sub (Ex.mk k r m d s)))]])) (by kernel_rfl) ?_
 simp only [Tree.holds, ze]
 refine RetR.scal hq rfl ?_
 refine congrArg AV.bool ?_
 rw [Bool.eq_iff_iff]
 simp [qt, Ex.kind, Ex.rat, Ex.name, Ex.date, Ex.sub, and_assoc]
def Xb : Ctr := ctrT false false (fun c : Con => [c.conA]) (fun _ => []) (fun _ => True) (fun _ (_ : Unit) => True) (fun c _ => (.fn 206 [] [.ptr 0 0], [.box (Con.JH c.kind c.src c.dst c.name c.x c.date c.days c.sub)]))
theorem W6 : zd Tryz.prog 120 Xb := by
 refine wB (fn := Tryz.f120) (c := Tryz.f120.body.getD .skip) rfl rfl rfl (fun h => by cases h) fun c hp O w0 σ0 Q hl hq => ?_
 have h0 : σ0 = [] := List.length_eq_zero_iff.1 (by simpa using hl)
 subst h0
 refine zc.run hmix zy [0] 400 (T := .leaf (.ret [.fn 206 [] [.ptr 0 0]] [.box (Con.zh c)])) (by kernel_rfl) ?_
 simp only [Tree.holds, ze]
 refine RetR.out1 0 (by simp) (hq () trivial) (fun h => by cases h) (by simp [resV, exp2, exp1, exp0, zA, ren0, eqA2]) ?_
 simp only [Con.JH, expB, exp1, List.map_cons, List.map_nil, exp0, Ex.exS, Con.dayS, Con.conS]
 exact ⟨⟨rfl, rfl⟩, rfl, rfl, rfl, ⟨rfl, rfl⟩, rfl, rfl, ⟨rfl, rfl⟩, ⟨rfl, rfl, za _ _ _⟩, ⟨rfl, rfl⟩, ⟨rfl, rfl, za _ _ _⟩, ⟨rfl, rfl, za _ _ _⟩, trivial⟩
noncomputable def GZ1 : Nat → Option Ctr := fun f => if f = 204 then some (uy) else if f = 24 then some (uZ) else if f = 120 then some (Xb) else none
theorem X3 : ∀ g c, GZ1 g = some c → zd Tryz.prog g c := okIf JA (okIf Yp (okIf W6 (zx)))
def zbn : Ctr := ctrP true (fun c : Con => [c.conA]) (fun c => c.big < 2 ^ 40 ∧ c.nodes ≤ 1000000) (fun c r => r = c.size) (fun _ (r : Nat) => (.int .i64 (r : Int), []))
theorem wz (c : Con) : eqA c.conA c.conA := by
 simp only [Con.conA, Ex.exS, Con.dayS, Con.conS, eqA]
 exact ⟨⟨rfl, rfl⟩, rfl, rfl, rfl, ⟨rfl, rfl⟩, rfl, rfl, ⟨rfl, rfl⟩, ⟨rfl, rfl, za _ _ _⟩, ⟨rfl, rfl⟩, ⟨rfl, rfl, za _ _ _⟩, ⟨rfl, rfl, za _ _ _⟩, trivial⟩
theorem QQ {own : Nat → Prop} {w : World} {σ : List SE} : ∀ {l : List AV} {vs : List Value}, l.all WM = true → RepL own w l σ vs → RepL own w l [] vs
 | [], vs, _, h => h
 | a :: l, vs, hf, h => by
  simp only [List.all_cons, Bool.and_eq_true] at hf
  simp only [RepL] at h ⊢
  obtain ⟨v, r, rfl, h1, h2⟩ := h
  exact ⟨v, r, rfl, VQ hf.1 h1, QQ hf.2 h2⟩
theorem zgt {O : Nat → Prop} {pin : Nat} {w0 w : World} {σ0 σ : List SE} {st : St} {a : Act} (hm : Mod O pin w0 σ0 w σ st a) : ∀ b, Go.Sx.Own O σ b → b < w.heap.size := by
 rintro b (hO | ⟨e, he, ad, h1, rfl⟩)
 ·exact hm.good.old b hO
 ·obtain ⟨j, hj⟩ := List.getElem?_of_mem he
  exact hm.hp.lt j e ad hj h1
theorem zq (c : Con) : eqL c.zh c.zh := by
 simp only [Con.zh, Con.JH, Ex.exS, Con.dayS, Con.conS]
 exact ⟨⟨rfl, rfl⟩, rfl, rfl, rfl, ⟨rfl, rfl⟩, rfl, rfl, ⟨rfl, rfl⟩, ⟨rfl, rfl, za _ _ _⟩, ⟨rfl, rfl⟩, ⟨rfl, rfl, za _ _ _⟩, ⟨rfl, rfl, za _ _ _⟩, trivial⟩
theorem zK (x : Ex) : eqA x.exA x.exA := by
 simp only [Ex.exA, Ex.exS, eqA]
 exact ⟨⟨rfl, rfl⟩, rfl, rfl, ⟨rfl, rfl⟩, ⟨rfl, rfl, za _ _ _⟩, trivial⟩
theorem Qf {O : Nat → Prop} {pin : Nat} {w0 w : World} {σ0 σ : List SE} {st : St} {a : Act} (hm : Mod O pin w0 σ0 w σ st a) {i : Nat} {c : Con} (hb : st.heap[i]? = some (.box c.zh)) (hn : c.nodes ≤ 1000000) {vb : List Value} (hv : RepL (Go.Sx.Own O σ) w [.ptr i 0] σ vb) :
  ∃ ev : Nat → Value, SeqStopsK Fence.wide 0 Tryz.prog 206 vb.toArray (fun x => #[ev x]) (qJ (Go.Sx.Own O σ)) (fun xs => xs = List.range c.all.length) (fun pre => pre <+: List.range c.all.length) c.all.length w ∧ ∀ i, Rep (Go.Sx.Own O σ) w (c.all.getD i c).conA [] (ev i) := by
 simp only [RepL, Rep] at hv
 obtain ⟨v, r, rfl, ⟨e, ad, he, had, rfl⟩, rfl⟩ := hv
 obtain ⟨ad', vs, el, g1, g2, g3, g4⟩ := hm.hp.blk i e _ he hb
 rw [had] at g1; cases g1
 have hr : Rep (Go.Sx.Own O σ) w c.conA [] (.agg vs.toArray) := by
  simp only [Con.conA]
  rw [Rep]
  exact ⟨vs, rfl, QQ rfl g4⟩
 have := WQ g3 hr hn (zgt hm)
 rw [g2]
 exact this
def HCs (c : Con) (m : Nat) : Heap := [.box c.zh, .box [.int .i64 (m : Int)], .box c.zh]
theorem zcg : zd Tryz.prog 118 zbn := by
 refine zk (fn := Tryz.f118) (c := Tryz.f118.body.getD .skip) rfl rfl rfl fun c hc O w0 Q hq => ?_
 obtain ⟨h1, h2⟩ := hc
 replace hq := hq _ rfl
 refine zc.run hmix X3 [2, 3, 6, 7] 400 (T := .ex (fun (x : Con) => eqL [(Con.conA c)] [(Con.conA x)] ∧ eqH [] [] ∧ 0 = 0 ∧ True) fun n => .all (fun (x : Unit) => True) fun n_1 => .leaf (.range (Prod.fst (rfs K118 0)) (Prod.snd (rfs K118 0)) [(2, .int .i64 0), (3, .ptr 1 0), (6, .fn 206 [] [.ptr 2 0]), (7, .undef)] [.box (Con.zh c), .box [.int .i64 0], .box (Con.zh n)])) (by kernel_rfl) ?_
 simp only [Tree.holds, ze]
 refine ⟨c, ⟨⟨wz c, trivial⟩, trivial, trivial, trivial⟩, ⟨(), trivial⟩, fun _ _ => ?_⟩
 refine zc.UR (tg := 6) (tp := 7) (td := 4) (t := 53) (n := 12) (zs := [.int .u8 0, .str [], .str [], .str [], .int .u8 0, .str [], .str [], .int .i64 0, .nils, .int .i64 0, .nils, .nils]) (cap := [.ptr 2 0]) (gf := 206) (by kernel_rfl) (by kernel_rfl) (by kernel_rfl) rfl (enters_of Tryz.func206 (by kernel_rfl) rfl) (fun i : Nat => (c.all.getD i c).conA) (fun i => (c.all.getD i c).zh) (fun i => ⟨rfl, rfl, rfl, rfl⟩) (fun pre => HCs c (pre.map fun i => (c.all.getD i c).wt).sum) (fun _ => []) (fun _ => False) (fun xs => xs = List.range c.all.length) (fun pre => pre <+: List.range c.all.length) c.all.length 3
  (by kernel_rfl) (by decide +kernel) (by decide +kernel) (by decide +kernel) (by decide) ⟨by simp, ⟨zq c, ⟨⟨rfl, rfl⟩, trivial⟩, zq c, trivial⟩, by kernel_rfl, Nat.zero_le _⟩ (by kernel_rfl) (Nat.zero_le _) (fun pre => rfl) (fun pre => by simp [HCs, alive]) (fun pre b hb => by cases hb) ?_ ?_ ?_ (fun _ _ h => h.elim)
 ·intro w σ a hm vb hvb
  exact Qf hm (i := 2) rfl h2 hvb
 ·intro l pre i hlen W σ1
  have hwt : (c.all.getD i c).big ≤ c.big := by
   by_cases hi : i < c.all.length
   ·exact Con.uX c _ (by simp [List.getD, hi])
   ·simp [List.getD, hi]
  have hm : (pre.map fun i => (c.all.getD i c).wt).sum ≤ pre.length * 2 ^ 40 := by
   have hall : ∀ j, (c.all.getD j c).wt ≤ 2 ^ 40 := fun j => by
    have h1' := Con.kN (c.all.getD j c).x
    have h2' : (c.all.getD j c).big ≤ c.big := by
     by_cases hi : j < c.all.length
     ·exact Con.uX c _ (by simp [List.getD, hi])
     ·simp [List.getD, hi]
    rw [Con.w7] at h2'
    have : (c.all.getD j c).wt = 1 + jG (c.all.getD j c).x := rfl
    omega
   clear hlen
   induction pre with
   | nil => simp
   | cons j pre ih =>
    have := hall j
    simp only [List.map_cons, List.sum_cons, List.length_cons]
    omega
  rw [List.map_append, List.sum_append]
  simp only [List.map_cons, List.map_nil, List.sum_cons, List.sum_nil, Nat.add_zero]
  rw [Con.XX] at hlen
  have hml : (pre.map fun i => (c.all.getD i c).wt).sum ≤ 1000000 * 2 ^ 40 := Nat.le_trans hm (Nat.mul_le_mul_right _ (by omega))
  generalize (pre.map fun i => (c.all.getD i c).wt).sum = m at hml
  generalize c.all.getD i c = e at hwt
  rw [Con.w7 e] at hwt
  refine zc.run hmix X3 [3, 6, 7] 400 (T := .side (inR .i64 ((↑m : Int) + (1 : Int))) (.ex (fun (x : Ex) => eqL [(Ex.exA (Con.x e))] [x.exA] ∧ True) fun n => .all (fun (r : Bool) => r = qt n) fun n => .ite (!n) (.ex (fun (x : Ex) => eqL [(Ex.exA (Con.x e))] [x.exA] ∧ Ex.size x < 4611686018427387904) fun n => .all (fun (r : Nat) => r = Ex.size n) fun n => .side (inR .i64 ((↑m : Int) + (1 : Int) + n)) (.leaf (.back 0 [(3, .ptr 1 0), (6, .fn 206 [] [.ptr 2 0]), (7, (Con.conA e))] [.box (Con.zh c), .box [.int .i64 ((↑m : Int) + (1 : Int) + n)], .box (Con.zh c)]))) (.leaf (.back 0 [(3, .ptr 1 0), (6, .fn 206 [] [.ptr 2 0]), (7, (Con.conA e))] [.box (Con.zh c), .box [.int .i64 ((↑m : Int) + (1 : Int))], .box (Con.zh c)])))) (by kernel_rfl) ?_
  simp only [Tree.holds, ze, inR, lo, hi, Int.toNat_natCast]
  have hsx : e.wt = 1 + jG e.x := rfl
  refine ⟨by omega, fun _ => ⟨e.x, ⟨⟨zK e.x, trivial⟩, trivial⟩, ⟨_, rfl⟩, ?_⟩⟩
  rintro _ rfl
  refine ⟨fun hb => ⟨e.x, ⟨⟨zK e.x, trivial⟩, by show e.x.size < _; omega⟩, ⟨_, rfl⟩, ?_⟩, fun hb => ?_⟩
  ·rintro _ rfl
   refine ⟨by omega, fun _ => ⟨trivial, ⟨zq c, ⟨⟨rfl, ?_⟩, trivial⟩, zq c, trivial⟩, by kernel_rfl, Nat.le_refl _⟩⟩
   have : jG e.x = e.x.size := by unfold jG; rw [show qt e.x = false by simpa using hb]; rfl
   omega
  ·refine ⟨trivial, ⟨zq c, ⟨⟨rfl, ?_⟩, trivial⟩, zq c, trivial⟩, by kernel_rfl, Nat.le_refl _⟩
   have : jG e.x = 0 := by unfold jG; rw [show qt e.x = true by simpa using hb]; rfl
   omega
 ·intro xs hxs
  subst hxs
  have hsum : ((List.range c.all.length).map fun i => (c.all.getD i c).wt).sum = c.size := by
   rw [Con.Va]
   congr 1
   apply List.ext_getElem (by simp)
   intro i h1 h2
   simp at h1
   simp [List.getD, h1]
  rw [hsum]
  generalize c.size = m at hq
  refine zc.run hmix X3 [2, 3, 6, 7] 400 (T := .leaf (.ret [.int .i64 m] [.box (Con.zh c), .box [.int .i64 m], .box (Con.zh c)])) (by kernel_rfl) ?_
  simp only [Tree.holds, ze]
  exact RetR.scal hq rfl rfl
end Go.Proofs.Tryz
end

/- Contracts: depth. -/
section
set_option maxRecDepth 100000
open Go Go.Sx Go.Proofs Go.Nov
namespace Go.Proofs.Tryz
attribute [local simp] eqKV eqA eqA0 eqH eqB eqL eqL0
noncomputable def K205 : List Go.Sx.Item := [.code (Tryz.f205.body.getD .skip)]
noncomputable def K119 : List Go.Sx.Item := [.code (Tryz.f119.body.getD .skip)]
noncomputable def K196 : List Go.Sx.Item := [.code (Tryz.f196.body.getD .skip)]
noncomputable def K131 : List Go.Sx.Item := [.code (Tryz.f131.body.getD .skip)]
def Y5 (n : Nat) : Ctr := ctrP true (fun x : Ex => [x.exA]) (fun x => x.size < n ∧ x.size < 2 ^ 62) (fun x r => r = x.depth) (fun _ (r : Nat) => (.int .i64 (r : Int), []))
def SEd (s : List Ex) (c i : Nat) : KV := [(3, .int .i64 (c : Int)), (7, Ex.exS s), (8, .int .i64 (s.length : Int)), (9, .int .i64 (i : Int))]
theorem Vr (n : Nat) (ih : zd Tryz.prog 205 (Y5 n)) : zd Tryz.prog 205 (Y5 (n + 1)) := by
 refine zk (fn := Tryz.f205) (c := Tryz.f205.body.getD .skip) rfl rfl rfl fun x hp O w0 Q hq => ?_
 obtain ⟨hxn, hxs⟩ := hp
 replace hq := hq _ rfl
 have hds := Ex.jX x
 rw [Ex.wv] at hq hds
 rw [Ex.size_eq] at hxn hxs hds
 obtain ⟨k, r, m, d, s⟩ := x
 simp only [Ex.sub] at hxn hxs hq hds
 have hlen := Ex.zC s
 refine zc.run hmix (w6 ih) [3, 7, 8, 9] 400 (T := .leaf (.loop (Prod.fst (lps K205 0)) (Prod.snd (lps K205 0)) [(3, .int .i64 0), (7, .sl s.length 5 (Ex.exG s)), (8, .int .i64 s.length), (9, .int .i64 0)] [.box [.int .u8 k, .str r, .str m, .int .i64 d, .sl s.length 5 (Ex.exG s)]])) (by kernel_rfl) ?_
 simp only [Tree.holds, ze, inR, lo, hi, Int.toNat_natCast]
 refine zc.loop (ι := {i : Nat // i ≤ s.length}) (fun i => SEd s (Ex.zu (s.take i.1)) i.1) (fun _ => []) (fun i => s.length - i.1) ⟨0, Nat.zero_le _⟩ 0 ?_ ?_ (by kernel_rfl)
 ·exact ⟨by simp [SEd, Ex.zu, Ex.exS, za], by simp, by kernel_rfl, Nat.zero_le _⟩
 ·rintro ⟨i, hil⟩
  have hcb : Ex.zu (s.take i) ≤ Ex.zu s := Ex.ZM s i
  obtain ⟨c, hc⟩ : ∃ c, Ex.zu (s.take i) = c := ⟨_, rfl⟩
  simp only [hc]
  refine zc.run hmix (w6 ih) [3, 7, 8, 9] 400 (T := .ite (decide ((↑i : Int) < s.length)) (.side ((0 : Int) ≤ i ∧ (↑i : Int) < s.length) (.ex (fun (x : Ex) => eqL [(exD (List.getD s (Int.toNat (↑i : Int)) Ex.nil))] [x.exA] ∧ Ex.size x < n ∧ Ex.size x < 4611686018427387904) fun n => .all (fun (r : Nat) => r = Ex.depth n) fun n => .side (inR .i64 ((↑i : Int) + (1 : Int))) (.leaf (.back 0 [(3, .int .i64 (max (↑c : Int) (↑n : Int))), (7, .sl s.length 5 (Ex.exG s)), (8, .int .i64 s.length), (9, .int .i64 ((↑i : Int) + (1 : Int)))] [.box (Ex.cellsD (List.getD s (Int.toNat (↑i : Int)) Ex.nil))])))) (.side (inR .i64 ((↑c : Int) + (1 : Int))) (.leaf (.ret [.int .i64 ((↑c : Int) + (1 : Int))] [])))) (by kernel_rfl) ?_
  simp only [Tree.holds, ze, inR, lo, hi, Int.toNat_natCast]
  refine ⟨fun hlt => ?_, fun hge => ?_⟩
  ·have hlt : i < s.length := by have := of_decide_eq_true hlt; omega
   have hg := Ex.qo hlt
   have ht := Ex.qP s i hlt
   refine ⟨by omega, fun _ => ⟨s.getD i Ex.nil, ⟨⟨⟨⟨rfl, rfl⟩, rfl, rfl, ⟨rfl, rfl⟩, ⟨rfl, rfl, Ex.z9 _⟩, trivial⟩, trivial⟩, by omega, by omega⟩, ⟨_, rfl⟩, ?_⟩⟩
   rintro _ rfl
   refine ⟨by omega, fun _ => ?_⟩
   rw [if_pos trivial]
   refine ⟨⟨i + 1, hlt⟩, by show s.length - (i + 1) < s.length - i; omega, ?_, by simp, by kernel_rfl, Nat.zero_le _⟩
   simp [SEd, ht, hc, Ex.exS, za]; omega
  ·have hge : i = s.length := by have := of_decide_eq_false hge; omega
   subst hge
   rw [List.take_length] at hc
   refine ⟨by omega, fun _ => ?_⟩
   exact RetR.scal hq rfl (by simp [resV]; omega)
def QL : Ctr := ctrP true (fun x : Ex => [x.exA]) (fun x => x.size < 2 ^ 62) (fun x r => r = x.depth) (fun _ (r : Nat) => (.int .i64 (r : Int), []))
theorem YU : zd Tryz.prog 205 QL := zO Ex.size Vr
theorem zD (e : Con) : eqA (.agg [.int .u8 e.kind, .str e.src, .str e.dst, .str e.name, .int .u8 e.x.kind, .str e.x.rat, .str e.x.name, .int .i64 e.x.date, .sl e.x.sub.length 5 (Ex.exG e.x.sub), .int .i64 e.date, .sl e.days.length 1 (Con.dayG e.days), .sl e.sub.length 12 e.deep]) e.conA := by
 simp only [Con.conA, Ex.exS, Con.dayS, Con.conS, eqA]
 exact ⟨⟨rfl, rfl⟩, rfl, rfl, rfl, ⟨rfl, rfl⟩, rfl, rfl, ⟨rfl, rfl⟩, ⟨rfl, rfl, za _ _ _⟩, ⟨rfl, rfl⟩, ⟨rfl, rfl, za _ _ _⟩, ⟨rfl, rfl, Con.z9 e⟩, trivial⟩
theorem wN (x : Ex) : jr x ≤ x.size := Nat.le_trans (Con.QJ x) (Con.kN x)
def SCd (c : Con) (d i : Nat) : KV := [(3, .int .i64 (d : Int)), (14, Con.conS c.sub), (15, .int .i64 (c.sub.length : Int)), (16, .int .i64 (i : Int))]
def wc (n : Nat) : Ctr := ctrP true (fun c : Con => [c.conA]) (fun c => c.nodes < n ∧ c.big < 2 ^ 40) (fun c r => r = c.depth) (fun _ (r : Nat) => (.int .i64 (r : Int), []))
noncomputable def GDb : Nat → Option Ctr := fun f => if f = 204 then some (uy) else if f = 205 then some (QL) else none
theorem zg5 : ∀ g c, GDb g = some c → zd Tryz.prog g c := okIf JA (okIf YU (zx))
noncomputable def GDc (n : Nat) : Nat → Option Ctr := fun f => if f = 119 then some (wc n) else GDb f
theorem zc2 {n : Nat} (h : zd Tryz.prog 119 (wc n)) : ∀ f c, GDc n f = some c → zd Tryz.prog f c := by
 intro f c hf
 simp only [GDc] at hf
 split at hf
 ·rename_i hg; subst hg; cases hf; exact h
 ·exact zg5 f c hf
theorem Vb (n : Nat) (ih : zd Tryz.prog 119 (wc n)) : zd Tryz.prog 119 (wc (n + 1)) := by
 refine zk (fn := Tryz.f119) (c := Tryz.f119.body.getD .skip) rfl rfl rfl fun c hp O w0 Q hq => ?_
 obtain ⟨hcn, hcb⟩ := hp
 replace hq := hq _ rfl
 rw [Con.wv] at hq
 refine zc.run hmix (zc2 ih) [3, 14, 15, 16] 400 (T := .ex (fun (x : Ex) => eqL [(Ex.exA (Con.x c))] [x.exA] ∧ True) fun n => .all (fun (r : Bool) => r = qt n) fun n => .ite (!n) (.ex (fun (x : Ex) => eqL [(Ex.exA (Con.x c))] [x.exA] ∧ Ex.size x < 4611686018427387904) fun n => .all (fun (r : Nat) => r = Ex.depth n) fun n => .leaf (.loop (Prod.fst (lps K119 0)) (Prod.snd (lps K119 0)) [(3, .int .i64 n), (14, .sl (List.length (Con.sub c)) 12 (Con.conG (Con.sub c))), (15, .int .i64 (↑(List.length (Con.sub c)) : Int)), (16, .int .i64 0)] [.box (Con.zh c)])) (.leaf (.loop (Prod.fst (lps K119 0)) (Prod.snd (lps K119 0)) [(3, .int .i64 0), (14, .sl (List.length (Con.sub c)) 12 (Con.conG (Con.sub c))), (15, .int .i64 (↑(List.length (Con.sub c)) : Int)), (16, .int .i64 0)] [.box (Con.zh c)]))) (by kernel_rfl) ?_
 simp only [Tree.holds, ze, inR, lo, hi, Int.toNat_natCast]
 have hb := hcb
 rw [Con.w7] at hb
 rw [Con.j4] at hcn
 have hxd := wN c.x
 have hsd := Con.xN c.sub
 have hl := Con.wy c.sub
 have loop : ∀ (d0 : Nat) (h : Heap), d0 = jr c.x → (∀ S, LeK 0 Tryz.f119.ntmps S h S [] → True) → h = [.box c.zh] → zc Tryz.prog Tryz.f119 O 0 w0 [] (fun _ _ _ => False) (RetR (wc (n + 1)) 0 Q) (.code (.loop (lps K119 0).1) :: (lps K119 0).2) (mk Tryz.f119.ntmps [(3, .int .i64 (d0 : Int)), (14, .sl c.sub.length 12 (Con.conG c.sub)), (15, .int .i64 (c.sub.length : Int)), (16, .int .i64 0)] h) := by
  rintro d0 h rfl _ rfl
  refine zc.loop (ι := {i : Nat // i ≤ c.sub.length}) (fun i => SCd c (max (jr c.x) (Con.zu (c.sub.take i.1))) i.1) (fun _ => []) (fun i => c.sub.length - i.1) ⟨0, Nat.zero_le _⟩ 0 ?_ ?_ (by kernel_rfl)
  ·exact ⟨by simp [SCd, Con.zu, Con.conS, za], by simp, by kernel_rfl, Nat.zero_le _⟩
  ·rintro ⟨i, hil⟩
   have hdb : Con.zu (c.sub.take i) ≤ Con.zu c.sub := Con.xh c.sub i
   obtain ⟨d, hd⟩ : ∃ d, max (jr c.x) (Con.zu (c.sub.take i)) = d := ⟨_, rfl⟩
   simp only [hd]
   refine zc.run hmix (zc2 ih) [3, 14, 15, 16] 400 (T := .ite (decide ((↑i : Int) < (↑(List.length (Con.sub c)) : Int))) (.side ((0 : Int) ≤ i ∧ (↑i : Int) < (↑(List.length (Con.sub c)) : Int)) (.ex (fun (x : Con) => eqL [(Con.conD (List.getD (Con.sub c) (Int.toNat (↑i : Int)) Con.nil))] [(Con.conA x)] ∧ Con.nodes x < n ∧ Con.big x < 1099511627776) fun n => .all (fun (r : Nat) => r = Con.depth n) fun n => .side (inR .i64 ((↑i : Int) + (1 : Int))) (.leaf (.back 0 [(3, .int .i64 (max (↑d : Int) (↑n : Int))), (14, .sl (List.length (Con.sub c)) 12 (Con.conG (Con.sub c))), (15, .int .i64 (↑(List.length (Con.sub c)) : Int)), (16, .int .i64 ((↑i : Int) + (1 : Int)))] [.box (Con.zg (List.getD (Con.sub c) (Int.toNat (↑i : Int)) Con.nil))])))) (.side (inR .i64 ((↑d : Int) + (1 : Int))) (.leaf (.ret [.int .i64 ((↑d : Int) + (1 : Int))] [])))) (by kernel_rfl) ?_
   simp only [Tree.holds, ze, inR, lo, hi, Int.toNat_natCast]
   refine ⟨fun hlt => ?_, fun hge => ?_⟩
   ·have hlt : i < c.sub.length := by have := of_decide_eq_true hlt; omega
    have hg := Con.qV hlt
    have hgb := Con.wQ hlt
    have ht := Con.qP c.sub i hlt
    refine ⟨by omega, fun _ => ⟨c.sub.getD i Con.nil, ⟨⟨zD _, trivial⟩, by omega, by omega⟩, ⟨_, rfl⟩, ?_⟩⟩
    rintro _ rfl
    refine ⟨by omega, fun _ => ?_⟩
    rw [if_pos trivial]
    refine ⟨⟨i + 1, hlt⟩, by show c.sub.length - (i + 1) < c.sub.length - i; omega, ?_, by simp, by kernel_rfl, Nat.zero_le _⟩
    simp [SCd, ht, Con.conS, za]; omega
   ·have hge : i = c.sub.length := by have := of_decide_eq_false hge; omega
    subst hge
    rw [List.take_length] at hd
    refine ⟨by omega, fun _ => ?_⟩
    exact RetR.scal hq rfl (by simp [resV]; omega)
 refine ⟨c.x, ⟨⟨zK c.x, trivial⟩, trivial⟩, ⟨_, rfl⟩, ?_⟩
 rintro _ rfl
 refine ⟨fun h => ⟨c.x, ⟨⟨zK c.x, trivial⟩, by show c.x.size < _; omega⟩, ⟨_, rfl⟩, ?_⟩, fun h => ?_⟩
 ·rintro _ rfl
  exact loop c.x.depth _ (by unfold jr; rw [show qt c.x = false by simpa using h]; rfl) (fun _ _ => trivial) rfl
 ·exact loop 0 _ (by unfold jr; rw [show qt c.x = true by simpa using h]; rfl) (fun _ _ => trivial) rfl
def xr : Ctr := ctrP true (fun c : Con => [c.conA]) (fun c => c.big < 2 ^ 40) (fun c r => r = c.depth) (fun _ (r : Nat) => (.int .i64 (r : Int), []))
theorem YR : zd Tryz.prog 119 xr := zO Con.nodes Vb
noncomputable def GDpr : Nat → Option Ctr := fun f => if f = 213 then some (uy) else if f = 193 then some (Jd) else none
theorem zei : ∀ g c, GDpr g = some c → zd Tryz.prog g c := okIf Qn (okIf Jl (zx))
noncomputable def zfa (n : Nat) : Nat → Option Ctr := fun f => if f = 196 then some (wc n) else GDpr f
theorem WJ {n : Nat} (h : zd Tryz.prog 196 (wc n)) : ∀ f c, zfa n f = some c → zd Tryz.prog f c := by
 intro f c hf
 simp only [zfa] at hf
 split at hf
 ·rename_i hg; subst hg; cases hf; exact h
 ·exact zei f c hf
def SDpr (d i : Nat) : KV := [(1, .ptr 0 0), (3, .int .i64 (d : Int)), (4, .int .i64 (i : Int))]
def HDpr (c : Con) : Heap := [.box c.zh]
theorem zcl (n : Nat) (ih : zd Tryz.prog 196 (wc n)) : zd Tryz.prog 196 (wc (n + 1)) := by
 refine zk (fn := Tryz.f196) (c := Tryz.f196.body.getD .skip) rfl rfl rfl fun c hp O w0 Q hq => ?_
 obtain ⟨hcn, hcb⟩ := hp
 replace hq := hq _ rfl
 rw [Con.wv] at hq
 refine zc.run hmix (WJ ih) [1, 3, 4] 400 (T := .ex (fun (x : Ex) => eqL [(Ex.exA (Con.x c))] [x.exA] ∧ True) fun n => .all (fun (r : Bool) => r = qt n) fun n => .ite (!n) (.ex (fun (x : Ex) => eqL [(Ex.exA (Con.x c))] [x.exA] ∧ Ex.size x < 4611686018427387904) fun n => .all (fun (r : Nat) => r = Ex.depth n) fun n => .leaf (.loop (Prod.fst (lps K196 0)) (Prod.snd (lps K196 0)) [(1, .ptr 0 0), (3, .int .i64 n), (4, .int .i64 0)] [.box (Con.zh c)])) (.leaf (.loop (Prod.fst (lps K196 0)) (Prod.snd (lps K196 0)) [(1, .ptr 0 0), (3, .int .i64 0), (4, .int .i64 0)] [.box (Con.zh c)]))) (by kernel_rfl) ?_
 simp only [Tree.holds, ze, inR, lo, hi, Int.toNat_natCast]
 have hb := hcb
 rw [Con.w7] at hb
 rw [Con.j4] at hcn
 have hxd := wN c.x
 have hxs := Con.kN c.x
 have hsd := Con.xN c.sub
 have hss := Con.vI c.sub
 have hl := Con.wy c.sub
 have loop : ∀ (d0 : Nat) (h : Heap), d0 = jr c.x → h = [.box c.zh] → zc Tryz.prog Tryz.f196 O 0 w0 [] (fun _ _ _ => False) (RetR (wc (n + 1)) 0 Q) (.code (.loop (lps K196 0).1) :: (lps K196 0).2) (mk Tryz.f196.ntmps [(1, .ptr 0 0), (3, .int .i64 (d0 : Int)), (4, .int .i64 0)] h) := by
  rintro d0 h rfl rfl
  refine zc.loop (ι := {i : Nat // i ≤ c.sub.length}) (fun i => SDpr (max (jr c.x) (Con.zu (c.sub.take i.1))) i.1) (fun _ => HDpr c) (fun i => c.sub.length - i.1) ⟨0, Nat.zero_le _⟩ 0 ?_ ?_ (by kernel_rfl)
  ·exact ⟨by simp [SDpr, Con.zu, Con.zw], ⟨zq c, trivial⟩, by kernel_rfl, Nat.zero_le _⟩
  ·rintro ⟨i, hil⟩
   have hdb : Con.zu (c.sub.take i) ≤ Con.zu c.sub := Con.xh c.sub i
   have hsb : Con.zw (c.sub.take i) ≤ Con.zw c.sub := Con.yn c.sub i
   obtain ⟨d, hd⟩ : ∃ d, max (jr c.x) (Con.zu (c.sub.take i)) = d := ⟨_, rfl⟩
   simp only [hd]
   refine zc.run hmix (WJ ih) [1, 3, 4] 400 (T := .ite (decide ((↑i : Int) < (↑(List.length (Con.sub c)) : Int))) (.side ((0 : Int) ≤ i ∧ (↑i : Int) < (↑(List.length (Con.sub c)) : Int)) (.ex (fun (x : Con) => eqL [(Con.conD (List.getD (Con.sub c) (Int.toNat (↑i : Int)) Con.nil))] [(Con.conA x)] ∧ Con.nodes x < n ∧ Con.big x < 1099511627776) fun n => .all (fun (r : Nat) => r = Con.depth n) fun n => .side (inR .i64 ((↑i : Int) + (1 : Int))) (.leaf (.back 0 [(1, .ptr 0 0), (3, .int .i64 (max (↑d : Int) (↑n : Int))), (4, .int .i64 ((↑i : Int) + (1 : Int)))] [.box (Con.zh c)])))) (.side (inR .i64 ((↑d : Int) + (1 : Int))) (.leaf (.ret [.int .i64 ((↑d : Int) + (1 : Int))] [.box (Con.zh c)])))) (by kernel_rfl) ?_
   simp only [Tree.holds, ze, inR, lo, hi, Int.toNat_natCast]
   refine ⟨fun hlt => ?_, fun hge => ?_⟩
   ·have hlt : i < c.sub.length := by have := of_decide_eq_true hlt; omega
    have hg := Con.qV hlt
    have hgb := Con.wQ hlt
    have hsl2 : Con.zw (c.sub.take (i + 1)) ≤ Con.zw c.sub := Con.yn c.sub (i + 1)
    have ht := Con.qP c.sub i hlt
    refine ⟨by omega, fun _ => ⟨c.sub.getD i Con.nil, ⟨⟨zD _, trivial⟩, by omega, by omega⟩, ⟨_, rfl⟩, ?_⟩⟩
    rintro _ rfl
    iterate 1 refine ⟨by omega, fun _ => ?_⟩
    rw [if_pos trivial]
    refine ⟨⟨i + 1, hlt⟩, by show c.sub.length - (i + 1) < c.sub.length - i; omega, ?_, ⟨zq c, trivial⟩, by kernel_rfl, Nat.zero_le _⟩
    simp [SDpr, ht]; omega
   ·have hge : i = c.sub.length := by have := of_decide_eq_false hge; omega
    subst hge
    rw [List.take_length] at hd
    refine ⟨by omega, fun _ => ?_⟩
    exact RetR.scal hq rfl (by simp [resV]; omega)
 refine ⟨c.x, ⟨⟨zK c.x, trivial⟩, trivial⟩, ⟨_, rfl⟩, ?_⟩
 rintro _ rfl
 refine ⟨fun h => ⟨c.x, ⟨⟨zK c.x, trivial⟩, by show c.x.size < _; omega⟩, ⟨_, rfl⟩, ?_⟩, fun h => ?_⟩
 ·rintro _ rfl
  exact loop c.x.depth _ (by unfold jr; rw [show qt c.x = false by simpa using h]; rfl) rfl
 ·exact loop 0 _ (by unfold jr; rw [show qt c.x = true by simpa using h]; rfl) rfl
theorem KF : zd Tryz.prog 196 xr := zO Con.nodes zcl
def xW (n : Nat) : Ctr := ctrP true (fun c : Con => [c.conA]) (fun c => c.nodes < n ∧ c.big < 2 ^ 40) (fun c r => r = c.size) (fun _ (r : Nat) => (.int .i64 (r : Int), []))
noncomputable def GSzr : Nat → Option Ctr := fun f => if f = 213 then some (uy) else if f = 192 then some (uZ) else none
theorem zey : ∀ g c, GSzr g = some c → zd Tryz.prog g c := okIf Qn (okIf WS (zx))
noncomputable def zfk (n : Nat) : Nat → Option Ctr := fun f => if f = 131 then some (xW n) else GSzr f
theorem V0 {n : Nat} (h : zd Tryz.prog 131 (xW n)) : ∀ f c, zfk n f = some c → zd Tryz.prog f c := by
 intro f c hf
 simp only [zfk] at hf
 split at hf
 ·rename_i hg; subst hg; cases hf; exact h
 ·exact zey f c hf
def SSzr (d i : Nat) : KV := [(1, .ptr 0 0), (3, .int .i64 (d : Int)), (4, .int .i64 (i : Int))]
def HSzr (c : Con) : Heap := [.box c.zh]
theorem zcj (n : Nat) (ih : zd Tryz.prog 131 (xW n)) : zd Tryz.prog 131 (xW (n + 1)) := by
 refine zk (fn := Tryz.f131) (c := Tryz.f131.body.getD .skip) rfl rfl rfl fun c hp O w0 Q hq => ?_
 obtain ⟨hcn, hcb⟩ := hp
 replace hq := hq _ rfl
 rw [Con.size_eq] at hq
 refine zc.run hmix (V0 ih) [1, 3, 4] 400 (T := .ex (fun (x : Ex) => eqL [(Ex.exA (Con.x c))] [x.exA] ∧ True) fun n => .all (fun (r : Bool) => r = qt n) fun n => .ite (!n) (.ex (fun (x : Ex) => eqL [(Ex.exA (Con.x c))] [x.exA] ∧ Ex.size x < 4611686018427387904) fun n => .all (fun (r : Nat) => r = Ex.size n) fun n => .side (inR .i64 ((1 : Int) + n)) (.leaf (.loop (Prod.fst (lps K131 0)) (Prod.snd (lps K131 0)) [(1, .ptr 0 0), (3, .int .i64 ((1 : Int) + n)), (4, .int .i64 0)] [.box (Con.zh c)]))) (.leaf (.loop (Prod.fst (lps K131 0)) (Prod.snd (lps K131 0)) [(1, .ptr 0 0), (3, .int .i64 1), (4, .int .i64 0)] [.box (Con.zh c)]))) (by kernel_rfl) ?_
 simp only [Tree.holds, ze, inR, lo, hi, Int.toNat_natCast]
 have hb := hcb
 rw [Con.w7] at hb
 rw [Con.j4] at hcn
 have hxd := wN c.x
 have hxs := Con.kN c.x
 have hsd := Con.xN c.sub
 have hss := Con.vI c.sub
 have hl := Con.wy c.sub
 have loop : ∀ (d0 : Nat) (h : Heap), d0 = 1 + jG c.x → h = [.box c.zh] → zc Tryz.prog Tryz.f131 O 0 w0 [] (fun _ _ _ => False) (RetR (xW (n + 1)) 0 Q) (.code (.loop (lps K131 0).1) :: (lps K131 0).2) (mk Tryz.f131.ntmps [(1, .ptr 0 0), (3, .int .i64 (d0 : Int)), (4, .int .i64 0)] h) := by
  rintro d0 h rfl rfl
  refine zc.loop (ι := {i : Nat // i ≤ c.sub.length}) (fun i => SSzr (1 + jG c.x + Con.zw (c.sub.take i.1)) i.1) (fun _ => HSzr c) (fun i => c.sub.length - i.1) ⟨0, Nat.zero_le _⟩ 0 ?_ ?_ (by kernel_rfl)
  ·exact ⟨by simp [SSzr, Con.zu, Con.zw], ⟨zq c, trivial⟩, by kernel_rfl, Nat.zero_le _⟩
  ·rintro ⟨i, hil⟩
   have hdb : Con.zu (c.sub.take i) ≤ Con.zu c.sub := Con.xh c.sub i
   have hsb : Con.zw (c.sub.take i) ≤ Con.zw c.sub := Con.yn c.sub i
   obtain ⟨d, hd⟩ : ∃ d, 1 + jG c.x + Con.zw (c.sub.take i) = d := ⟨_, rfl⟩
   simp only [hd]
   refine zc.run hmix (V0 ih) [1, 3, 4] 400 (T := .ite (decide ((↑i : Int) < (↑(List.length (Con.sub c)) : Int))) (.side ((0 : Int) ≤ i ∧ (↑i : Int) < (↑(List.length (Con.sub c)) : Int)) (.ex (fun (x : Con) => eqL [(Con.conD (List.getD (Con.sub c) (Int.toNat (↑i : Int)) Con.nil))] [(Con.conA x)] ∧ Con.nodes x < n ∧ Con.big x < 1099511627776) fun n => .all (fun (r : Nat) => r = Con.size n) fun n => .side (inR .i64 ((↑d : Int) + n)) (.side (inR .i64 ((↑i : Int) + (1 : Int))) (.leaf (.back 0 [(1, .ptr 0 0), (3, .int .i64 ((↑d : Int) + n)), (4, .int .i64 ((↑i : Int) + (1 : Int)))] [.box (Con.zh c)]))))) (.leaf (.ret [.int .i64 d] [.box (Con.zh c)]))) (by kernel_rfl) ?_
   simp only [Tree.holds, ze, inR, lo, hi, Int.toNat_natCast]
   refine ⟨fun hlt => ?_, fun hge => ?_⟩
   ·have hlt : i < c.sub.length := by have := of_decide_eq_true hlt; omega
    have hg := Con.qV hlt
    have hgb := Con.wQ hlt
    have hsl2 : Con.zw (c.sub.take (i + 1)) ≤ Con.zw c.sub := Con.yn c.sub (i + 1)
    have ht := Con.vZ hlt
    refine ⟨by omega, fun _ => ⟨c.sub.getD i Con.nil, ⟨⟨zD _, trivial⟩, by omega, by omega⟩, ⟨_, rfl⟩, ?_⟩⟩
    rintro _ rfl
    iterate 2 refine ⟨by omega, fun _ => ?_⟩
    rw [if_pos trivial]
    refine ⟨⟨i + 1, hlt⟩, by show c.sub.length - (i + 1) < c.sub.length - i; omega, ?_, ⟨zq c, trivial⟩, by kernel_rfl, Nat.zero_le _⟩
    simp [SSzr, ht]; omega
   ·have hge : i = c.sub.length := by have := of_decide_eq_false hge; omega
    subst hge
    rw [List.take_length] at hd
    exact RetR.scal hq rfl (by simp [resV]; omega)
 refine ⟨c.x, ⟨⟨zK c.x, trivial⟩, trivial⟩, ⟨_, rfl⟩, ?_⟩
 rintro _ rfl
 refine ⟨fun h => ⟨c.x, ⟨⟨zK c.x, trivial⟩, by show c.x.size < _; omega⟩, ⟨_, rfl⟩, ?_⟩, fun h => ?_⟩
 ·rintro _ rfl
  refine ⟨by omega, fun _ => ?_⟩
  have := loop (1 + c.x.size) _ (by unfold jG; rw [show qt c.x = false by simpa using h]; rfl) rfl
  rw [Int.natCast_add] at this
  exact this
 ·exact loop 1 _ (by unfold jG; rw [show qt c.x = true by simpa using h]; rfl) rfl
def Jk : Ctr := ctrP true (fun c : Con => [c.conA]) (fun c => c.big < 2 ^ 40) (fun c r => r = c.size) (fun _ (r : Nat) => (.int .i64 (r : Int), []))
theorem YC : zd Tryz.prog 131 Jk := zO Con.nodes zcj
end Go.Proofs.Tryz
end

/- Arguments that say no less than a contract asks. -/
section
namespace Go.Sx
variable [Stat]
section
variable {P : Program}
theorem J2 (a : AV) : eqA0 a a := by
 cases a <;> simp [eqA0]
 exact fun _ _ _ _ => rfl
theorem yN : ∀ l : List AV, eqL0 l l
 | [] => trivial
 | a :: l => ⟨J2 a, yN l⟩
theorem zav (a : AV) : eqA a a := by
 cases a with
 | agg l => exact yN l
 | tup l => exact yN l
 | _ => unfold eqA; exact J2 _
theorem ZT : ∀ l : List AV, eqL l l
 | [] => trivial
 | a :: l => by
  unfold eqL
  split
  ·rename_i h1 h2; cases h1
  ·rename_i h1 h2; cases h1; cases h2; exact ZT l
  ·rename_i h1 h2; cases h1; cases h2; exact ⟨zav _, ZT l⟩
  ·rename_i hx; exact (hx _ _ _ _ rfl rfl).elim
end
end Go.Sx
end

/- A contract that is the callee's own run: for small functions without loops. -/
section
namespace Go.Sx
variable [Stat]
section
variable {P : Program} {Γ : Nat → Option Ctr} {fn : Func}
def inlC (P : Program) (Γ : Nat → Option Ctr) (n : Nat) (fn : Func) : Ctr where
 fresh := false
 spec args hc := match fn.body with
  | some c => (run P Γ hc.length n [.code c] (kT fn args hc)).bind fun lf => match lf with
   | .ret st => (resX P st fn.results.toList).bind fun rs => bif decide (hc.length ≤ st.heap.length) then .leaf (exp2 st.heap (List.range st.heap.length) (resV rs), expH st.heap (List.range st.heap.length)) else .fail
   | _ => .fail
  | none => .fail
theorem nodup_range' : ∀ (n s : Nat), jA (List.range' s n) = true
 | 0, _ => rfl
 | n + 1, s => by
  rw [List.range'_succ]
  simp only [jA, Bool.and_eq_true]
  refine ⟨?_, nodup_range' n (s + 1)⟩
  simp [List.contains_eq_mem, List.mem_range'_1]
theorem YM (b : Blk) : eqB b b := by
 cases b with
 | dead => trivial
 | box l => exact ZT l
 | arr n sz g => exact ⟨rfl, rfl, fun _ _ _ _ => rfl⟩
 | arrI k n f => exact ⟨rfl, fun _ _ _ _ => rfl⟩
 | arrS n f => exact ⟨rfl, fun _ _ _ _ => rfl⟩
 | map ag sh has get pe => exact ⟨⟨rfl, .inr rfl⟩, rfl, fun _ => rfl, fun _ _ => rfl⟩
theorem YG (h : Heap) : eqH h h := by
 induction h with
 | nil => trivial
 | cons b l ih => exact ⟨YM b, ih⟩
theorem xA {g n : Nat} (hmix : P.follows .mixedOrders = true) (hΓ : ∀ g c, Γ g = some c → zd P g c) (hf : P.funcs[g]? = some fn) (hn : (fn.name == "runtime.NumGoroutine") = false) : zd P g (inlC P Γ n fn) := by
 intro args hc Q hq hfr
 simp only [inlC] at hq
 cases hb : fn.body with
 | none => rw [hb] at hq; exact hq.elim
 | some c =>
  rw [hb] at hq
  simp only [Tree.zo] at hq
  refine zfm hf hb hn hfr fun O w0 σ0 hl => Safe.run hmix hΓ n (Tree.zM (fun lf h => ?_) hq)
  cases lf with
  | ret st =>
   simp only [Tree.zo] at h
   refine Tree.zM (fun rs h => ?_) h
   cases hd : decide (hc.length ≤ st.heap.length) with
   | false => rw [hd] at h; exact h.elim
   | true =>
    rw [hd] at h
    have h : Q (exp2 st.heap (List.range st.heap.length) (resV rs), expH st.heap (List.range st.heap.length)) := h
    have hd := of_decide_eq_true hd
    exact ⟨List.range st.heap.length, by rw [List.range_eq_range']; exact nodup_range' _ _, fun i hi => List.mem_range.1 hi, fun j hj => by rw [List.getElem?_range (by omega)], fun h => (by cases h), _, _, LeA.refl _, YG _, by simp [expH], h⟩
  | _ => exact h.elim
end
end Go.Sx
end

/- A place in an ordered list. -/
section
namespace Go.Nov
open Go.Sx
structure OrdK {α : Type} (c : α → α → Int) : Prop where
 lt : ∀ a b d, c a b < 0 → c b d < 0 → c a d < 0
 eq : ∀ a b d, c a b < 0 → c b d = 0 → c a d < 0
section
variable {α : Type} {c : α → α → Int} {z x : α}
end
theorem zgp {α : Type} {p : α → Bool} {z : α} {l : List α} (h : ∀ j, j < l.length → p (l.getD j z) = true) : l.all p = true := by
 rw [List.all_eq_true]
 intro x hx
 obtain ⟨j, hj, rfl⟩ := List.getElem_of_mem hx
 have := h j hj
 simpa [List.getD, hj] using this
theorem zep {α : Type} {p : α → Bool} {z : α} {l : List α} {j : Nat} (hj : j < l.length) (h : p (l.getD j z) = false) : l.all p = false := by
 rw [List.all_eq_false]
 exact ⟨l[j], List.getElem_mem hj, by simpa [List.getD, hj] using h⟩
end Go.Nov
end

/- Contracts: lists of days. -/
section
set_option maxRecDepth 100000
open Go Go.Sx Go.Proofs Go.Nov
namespace Go.Proofs.Tryz
attribute [local simp] eqKV eqA eqA0 eqH eqB eqL eqL0
noncomputable def K211 : List Go.Sx.Item := [.code (Tryz.f211.body.getD .skip)]
noncomputable def K234 : List Go.Sx.Item := [.code (Tryz.f234.body.getD .skip)]
def Yy : Ctr := ctrP true (fun l : List Int => [Con.dayS l]) (fun l => l.length < 2 ^ 40) (fun l r => r = wP l) (fun _ (r : Bool) => (.bool r, []))
noncomputable def Kf : Ctr := inlC Tryz.prog noG 100 Tryz.f210
theorem Jv : zd Tryz.prog 210 Kf := xA hmix zy rfl rfl
noncomputable def GDy : Nat → Option Ctr := fun f => if f = 210 then some (Kf) else none
theorem za0 : ∀ g c, GDy g = some c → zd Tryz.prog g c := okIf Jv (zx)
def VI (l : List Int) (i : Nat) : Prop := ∀ j, j < i → dayB (l.getD j 0) = true ∧ (0 < j → l.getD (j - 1) 0 < l.getD j 0)
theorem Jj {l : List Int} (h1 : 1 ≤ l.length) (h2 : l.length ≤ 100) (h : VI l l.length) : wP l = true := by
 unfold wP
 rw [decide_eq_true h1, decide_eq_true h2, zgp (z := 0) fun j hj => (h j hj).1]
 simp only [Bool.true_and]
 unfold incB
 refine zc5 fun j hj => ?_
 rw [Y2]
 exact (h (j + 1) hj).2 (by omega)
theorem W0 {l : List Int} {i : Nat} (hi : i < l.length) (h : ¬ (dayB (l.getD i 0) = true ∧ (0 < i → l.getD (i - 1) 0 < l.getD i 0))) : wP l = false := by
 unfold wP
 by_cases hd : dayB (l.getD i 0) = true
 ·have h : 0 < i ∧ ¬ l.getD (i - 1) 0 < l.getD i 0 := by
   refine ⟨?_, ?_⟩
   ·rcases Nat.eq_zero_or_pos i with h0 | h0
    ·exact absurd ⟨hd, fun h1 => by omega⟩ h
    ·exact h0
   ·exact fun h1 => h ⟨hd, fun _ => h1⟩
  have : incB l = false := by
   unfold incB
   refine UP (j := i - 1) (by omega) ?_
   rw [Y2, show i - 1 + 1 = i by omega]
   exact h.2
  rw [this]; simp
 ·have : l.all dayB = false := zep (z := 0) hi (by simpa using hd)
  rw [this]; simp
theorem Ze {l : List Int} {i : Nat} (h : VI l i) (h1 : dayB (l.getD i 0) = true ∧ (0 < i → l.getD (i - 1) 0 < l.getD i 0)) : VI l (i + 1) := fun j hj => by
 rcases Nat.lt_or_ge j i with h2 | h2
 ·exact h j h2
 ·rw [show j = i by omega]; exact h1
theorem JB {l : List Int} {i : Nat} {b : Bool} (hb : b = dayB (l.getD i 0)) : (bif !b then true else bif decide (0 < (i : Int)) then decide (l.getD i 0 ≤ l.getD ((i : Int) - 1).toNat 0) else false) = false ↔ (dayB (l.getD i 0) = true ∧ (0 < i → l.getD (i - 1) 0 < l.getD i 0)) := by
 have e : ((i : Int) - 1).toNat = i - 1 := by omega
 rw [e, ← hb]
 cases b with
 | false => simp
 | true =>
  by_cases h0 : 0 < i
  ·have h1 : 0 < (i : Int) := by omega
   rw [decide_eq_true h1]
   simp only [Bool.not_true, cond_false, cond_true, decide_eq_false_iff_not, true_and]
   exact ⟨fun h _ => by omega, fun h => by have := h h0; omega⟩
  ·have h1 : ¬ 0 < (i : Int) := by omega
   rw [decide_eq_false h1]
   simp [h0]
theorem WN {l : List Int} {i : Nat} {b : Bool} (hb : b = dayB (l.getD i 0)) : (bif !b then true else bif decide (0 < (i : Int)) then decide (l.getD i 0 ≤ l.getD ((i : Int) - 1).toNat 0) else false) = true → ¬ (dayB (l.getD i 0) = true ∧ (0 < i → l.getD (i - 1) 0 < l.getD i 0)) := fun h g => by
 rw [(JB hb).2 g] at h; cases h
def SDy (l : List Int) (i : Nat) : KV := [(0, Con.dayS l), (13, Con.dayS l), (14, .int .i64 (l.length : Int)), (15, .int .i64 (i : Int)), (24, .undef), (25, .undef), (26, .undef), (27, .undef), (28, .undef), (29, .undef), (30, .undef), (31, .undef), (32, .undef), (33, .undef), (34, .undef)]
def SDyr (l : List Int) (i : Nat) : KV := [(0, Con.dayS l), (3, .int .i64 (i : Int)), (17, .undef), (18, .undef), (19, .undef), (20, .undef), (21, .undef), (22, .undef), (23, .undef), (24, .undef), (25, .undef), (26, .undef), (27, .undef), (28, .undef), (29, .undef), (30, .undef), (36, .undef), (37, .undef), (38, .undef)]
theorem zft (d : Int) : (bif decide (0 ≤ d) then decide (d ≤ 99999) else false) = dayB d := by
 rw [Bool.eq_iff_iff]
 simp [dayB]
theorem ze7 : zd Tryz.prog 211 Yy := by
 refine zk (fn := Tryz.f211) (c := Tryz.f211.body.getD .skip) rfl rfl rfl fun l hl O w0 Q hq => ?_
 replace hq := hq _ rfl
 refine zc.run hmix za0 [0, 13, 14, 15, 24, 25, 26, 27, 28, 29, 30, 31, 32, 33, 34] 400 (T := .ite (bif decide ((↑l.length : Int) < 1) then true else decide ((100 : Int) < l.length)) (.leaf (.ret [.bool false] [])) (.leaf (.loop (Prod.fst (lps K211 0)) (Prod.snd (lps K211 0)) [(0, .sl l.length 1 (Con.dayG l)), (13, .sl l.length 1 (Con.dayG l)), (14, .int .i64 l.length), (15, .int .i64 0), (24, .undef), (25, .undef), (26, .undef), (27, .undef), (28, .undef), (29, .undef), (30, .undef), (31, .undef), (32, .undef), (33, .undef), (34, .undef)] []))) (by kernel_rfl) ?_
 simp only [Tree.holds, ze, inR, lo, hi, Int.toNat_natCast]
 refine ⟨fun h => ?_, fun h => ?_⟩
 ·have hb : wP l = false := by
   unfold wP
   by_cases h1 : 1 ≤ l.length
   ·by_cases h2 : l.length ≤ 100
    ·rw [decide_eq_false (by omega), decide_eq_false (by omega)] at h; cases h
    ·rw [decide_eq_false h2]; simp
   ·rw [decide_eq_false h1]; simp
  rw [hb] at hq
  exact RetR.scal hq rfl rfl
 have hlen : 1 ≤ l.length ∧ l.length ≤ 100 := by
  by_cases h1 : (l.length : Int) < 1
  ·rw [decide_eq_true h1] at h; cases h
  ·rw [decide_eq_false h1] at h
   have := of_decide_eq_false h
   omega
 clear h
 refine zc.loop (ι := {i : Nat // i ≤ l.length ∧ VI l i}) (fun i => SDy l i.1) (fun _ => []) (fun i => l.length - i.1) ⟨0, Nat.zero_le _, fun j hj => by omega⟩ 0 ?_ ?_ (by kernel_rfl)
 ·exact ⟨by simp [SDy, Con.dayS, za], by simp, by kernel_rfl, Nat.zero_le _⟩
 rintro ⟨i, hil, hg⟩
 refine zc.run hmix za0 [0, 13, 14, 15, 24, 25, 26, 27, 28, 29, 30, 31, 32, 33, 34] 400 (T := .ite (decide ((↑i : Int) < l.length)) (.side ((0 : Int) ≤ i ∧ (↑i : Int) < l.length) (.side ((!bif decide ((0 : Int) ≤ List.getD l (Int.toNat (↑i : Int)) (0 : Int)) then decide (List.getD l (Int.toNat (↑i : Int)) (0 : Int) ≤ 99999) else false) = false ∧ decide ((0 : Int) < i) = true → inR .i64 ((↑i : Int) - (1 : Int))) (.side ((!bif decide ((0 : Int) ≤ List.getD l (Int.toNat (↑i : Int)) (0 : Int)) then decide (List.getD l (Int.toNat (↑i : Int)) (0 : Int) ≤ 99999) else false) = false ∧ decide ((0 : Int) < i) = true → (0 : Int) ≤ i - (1 : Int) ∧ (↑i : Int) - (1 : Int) < l.length) (.ite (bif !bif decide ((0 : Int) ≤ List.getD l (Int.toNat (↑i : Int)) (0 : Int)) then decide (List.getD l (Int.toNat (↑i : Int)) (0 : Int) ≤ 99999) else false then true else bif decide ((0 : Int) < i) then decide (List.getD l (Int.toNat (↑i : Int)) (0 : Int) ≤ List.getD l (Int.toNat ((↑i : Int) - (1 : Int))) (0 : Int)) else false) (.leaf (.ret [.bool false] [])) (.side (inR .i64 ((↑i : Int) + (1 : Int))) (.leaf (.back 0 [(0, .sl l.length 1 (Con.dayG l)), (13, .sl l.length 1 (Con.dayG l)), (14, .int .i64 l.length), (15, .int .i64 ((↑i : Int) + (1 : Int))), (24, .undef), (25, .undef), (26, .undef), (27, .undef), (28, .undef), (29, .undef), (30, .undef), (31, .undef), (32, .undef), (33, .undef), (34, .undef)] []))))))) (.leaf (.ret [.bool true] []))) (by kernel_rfl) ?_
 simp only [Tree.holds, ze, inR, lo, hi, Int.toNat_natCast]
 refine ⟨fun hlt => ?_, fun hge => ?_⟩
 ·have hlt : i < l.length := by have := of_decide_eq_true hlt; omega
  refine ⟨by omega, fun _ => ⟨fun h => (by have := of_decide_eq_true h.2; omega), fun _ => ⟨fun h => (by have := of_decide_eq_true h.2; omega), fun _ => ⟨fun ht => ?_, fun ht => ⟨by omega, fun _ => ?_⟩⟩⟩⟩⟩
  ·rw [W0 hlt (WN (zft _) ht)] at hq
   exact RetR.scal hq rfl rfl
  ·rw [if_pos trivial]
   exact ⟨⟨i + 1, hlt, Ze hg ((JB (zft _)).1 ht)⟩, by show l.length - (i + 1) < l.length - i; omega, by simp [SDy, Con.dayS, za], by simp, by kernel_rfl, Nat.zero_le _⟩
 ·have hge : i = l.length := by have := of_decide_eq_false hge; omega
  subst hge
  rw [Jj hlen.1 hlen.2 hg] at hq
  exact RetR.scal hq rfl rfl
noncomputable def GDyr : Nat → Option Ctr := fun f => if f = 115 then some (xt) else none
theorem XA : ∀ g c, GDyr g = some c → zd Tryz.prog g c := okIf JY (zx)
theorem zbm : zd Tryz.prog 234 Yy := by
 refine zk (fn := Tryz.f234) (c := Tryz.f234.body.getD .skip) rfl rfl rfl fun l hl O w0 Q hq => ?_
 replace hq := hq _ rfl
 refine zc.run hmix XA [0, 3, 17, 18, 19, 20, 21, 22, 23, 24, 25, 26, 27, 28, 29, 30, 36, 37, 38] 400 (T := .leaf (.loop (Prod.fst (lps K234 0)) (Prod.snd (lps K234 0)) [(0, .sl l.length 1 (Con.dayG l)), (3, .int .i64 0), (17, .undef), (18, .undef), (19, .undef), (20, .undef), (21, .undef), (22, .undef), (23, .undef), (24, .undef), (25, .undef), (26, .undef), (27, .undef), (28, .undef), (29, .undef), (30, .undef), (36, .undef), (37, .undef), (38, .undef)] [])) (by kernel_rfl) ?_
 simp only [Tree.holds, ze, inR, lo, hi, Int.toNat_natCast]
 refine zc.loop (ι := {i : Nat // i ≤ l.length ∧ VI l i}) (fun i => SDyr l i.1) (fun _ => []) (fun i => l.length - i.1) ⟨0, Nat.zero_le _, fun j hj => by omega⟩ 0 ?_ ?_ (by kernel_rfl)
 ·exact ⟨by simp [SDyr, Con.dayS, za], by simp, by kernel_rfl, Nat.zero_le _⟩
 rintro ⟨i, hil, hg⟩
 refine zc.run hmix XA [0, 3, 17, 18, 19, 20, 21, 22, 23, 24, 25, 26, 27, 28, 29, 30, 36, 37, 38] 400 (T := .ite (decide ((↑i : Int) < l.length)) (.side ((0 : Int) ≤ i ∧ (↑i : Int) < l.length) (.ex (fun (x : Int) => eqL [AV.int .i64 (List.getD l (Int.toNat (↑i : Int)) (0 : Int))] [AV.int .i64 x] ∧ True) fun n => .all (fun (r : Bool) => r = dayB n) fun n => .side ((!n) = false ∧ decide ((0 : Int) < i) = true → (0 : Int) ≤ i ∧ (↑i : Int) < l.length) (.side ((!n) = false ∧ decide ((0 : Int) < i) = true → inR .i64 ((↑i : Int) - (1 : Int))) (.side ((!n) = false ∧ decide ((0 : Int) < i) = true → (0 : Int) ≤ i - (1 : Int) ∧ (↑i : Int) - (1 : Int) < l.length) (.ite (bif !n then true else bif decide ((0 : Int) < i) then decide (List.getD l (Int.toNat (↑i : Int)) (0 : Int) ≤ List.getD l (Int.toNat ((↑i : Int) - (1 : Int))) (0 : Int)) else false) (.leaf (.ret [.bool false] [])) (.side (inR .i64 ((↑i : Int) + (1 : Int))) (.leaf (.back 0 [(0, .sl l.length 1 (Con.dayG l)), (3, .int .i64 ((↑i : Int) + (1 : Int))), (17, .undef), (18, .undef), (19, .undef), (20, .undef), (21, .undef), (22, .undef), (23, .undef), (24, .undef), (25, .undef), (26, .undef), (27, .undef), (28, .undef), (29, .undef), (30, .undef), (36, .undef), (37, .undef), (38, .undef)] [])))))))) (.leaf (.ret [.bool (bif decide ((1 : Int) ≤ l.length) then decide ((↑l.length : Int) ≤ 100) else false)] []))) (by kernel_rfl) ?_
 simp only [Tree.holds, ze, inR, lo, hi, Int.toNat_natCast]
 refine ⟨fun hlt => ?_, fun hge => ?_⟩
 ·have hlt : i < l.length := by have := of_decide_eq_true hlt; omega
  refine ⟨by omega, fun _ => ⟨l.getD i 0, ⟨by simp, trivial⟩, ⟨_, rfl⟩, ?_⟩⟩
  rintro _ rfl
  refine ⟨fun _ => (by omega), fun _ => ⟨fun h => (by have := of_decide_eq_true h.2; omega), fun _ => ⟨fun h => (by have := of_decide_eq_true h.2; omega), fun _ => ⟨fun ht => ?_, fun ht => ⟨by omega, fun _ => ?_⟩⟩⟩⟩⟩
  ·rw [W0 hlt (WN rfl ht)] at hq
   exact RetR.scal hq rfl rfl
  ·rw [if_pos trivial]
   exact ⟨⟨i + 1, hlt, Ze hg ((JB rfl).1 ht)⟩, by show l.length - (i + 1) < l.length - i; omega, by simp [SDyr, Con.dayS, za], by simp, by kernel_rfl, Nat.zero_le _⟩
 ·have hge : i = l.length := by have := of_decide_eq_false hge; omega
  subst hge
  have e : (bif decide (1 ≤ (l.length : Int)) then decide ((l.length : Int) ≤ 100) else false) = wP l := by
   by_cases h1 : 1 ≤ l.length
   ·by_cases h2 : l.length ≤ 100
    ·rw [Jj h1 h2 hg, decide_eq_true (by omega), decide_eq_true (by omega)]; rfl
    ·rw [decide_eq_true (by omega), decide_eq_false (by omega)]; unfold wP; rw [decide_eq_false h2]; simp
   ·rw [decide_eq_false (by omega)]; unfold wP; rw [decide_eq_false h1]; simp
  rw [e]
  exact RetR.scal hq rfl rfl
end Go.Proofs.Tryz
end

/- Contracts: nodes. -/
section
set_option maxRecDepth 100000
open Go Go.Sx Go.Proofs Go.Nov
namespace Go.Proofs.Tryz
attribute [local simp] eqKV eqA eqA0 eqH eqB eqL eqL0
def bitB (p q : Int) : Bool := decide (((p.toNat &&& q.toNat : Nat) : Int) ≠ 0)
def HHas (p : Int) : Heap := [.box [.int .i64 p]]
def hasC : Ctr := ctrT false false (fun p : Int × Int => [.int .i64 p.2, .ptr 0 0]) (fun p => HHas p.1) (fun p => 0 ≤ p.1 ∧ p.1 < 512 ∧ 0 ≤ p.2 ∧ p.2 < 512) (fun p r => r = bitB p.1 p.2) (fun p (r : Bool) => (.bool r, HHas p.1))
theorem zah : zd Tryz.prog 208 hasC := by
 refine wB (fn := Tryz.f208) (c := Tryz.f208.body.getD .skip) rfl rfl rfl (fun h => by cases h) fun p hp O w0 σ0 Q hl0 hq => ?_
 obtain ⟨p, q⟩ := p
 obtain ⟨h1, h2, h3, h4⟩ := hp
 replace hq := hq _ rfl
 simp only at h1 h2 h3 h4 hq
 refine zc.run hmix zy [] 400 (T := .side (((0 : Int) ≤ p ∧ p ≤ 9223372036854775807) ∧ (0 : Int) ≤ q ∧ q ≤ 9223372036854775807) (.leaf (.ret [.bool !decide ((↑(Int.toNat p &&& Int.toNat q) : Int) = 0)] [.box [.int .i64 p]]))) (by kernel_rfl) ?_
 simp only [Tree.holds, ze, inR, lo, hi, Int.toNat_natCast]
 refine ⟨by omega, fun _ => ?_⟩
 refine RetR.keep [0] rfl rfl (by show ∀ j, j < 1 → _; decide) rfl hq ?_ ?_ rfl
 ·show (!decide (((p.toNat &&& q.toNat : Nat) : Int) = 0)) = bitB p q
  simp [bitB]
 ·exact ⟨⟨⟨rfl, rfl⟩, trivial⟩, trivial⟩
noncomputable def GNd2 : Nat → Option Ctr := fun f => if f = 208 then some (hasC) else if f = 81 then some (uJ) else none
theorem zdj : ∀ g c, GNd2 g = some c → zd Tryz.prog g c := okIf zah (okIf Yg (zx))
def zfo (p : Int) : Heap := [.box [.fn 208 [] [.ptr 1 0]], .box [.int .i64 p]]
def jE (b : Bool) (s : List UInt8) : Bool := if b = true then qm s else decide (s = [])
def zfv : Ctr := ctrT false false (fun p : Int × Int × List UInt8 => [.int .i64 p.2.1, .str p.2.2, .ptr 0 0]) (fun p => zfo p.1) (fun p => 0 ≤ p.1 ∧ p.1 < 512 ∧ 0 ≤ p.2.1 ∧ p.2.1 < 512 ∧ p.2.2.length < 2 ^ 62) (fun p r => r = jE (bitB p.1 p.2.1) p.2.2) (fun p (r : Bool) => (.bool r, zfo p.1))
theorem zeo : zd Tryz.prog 209 zfv := by
 refine wB (fn := Tryz.f209) (c := Tryz.f209.body.getD .skip) rfl rfl rfl (fun h => by cases h) fun p hp O w0 σ0 Q hl0 hq => ?_
 obtain ⟨p, q, s⟩ := p
 obtain ⟨h1, h2, h3, h4, h5⟩ := hp
 replace hq := hq _ rfl
 simp only at h1 h2 h3 h4 h5 hq
 refine zc.run hmix zdj [] 400 (T := .ex (fun (x : Int × Int) => eqL [AV.int .i64 q, AV.ptr 0 0] [AV.int .i64 x.2, AV.ptr 0 0] ∧ eqH [.box [AV.int .i64 p]] [.box [AV.int .i64 x.1]] ∧ 1 = 1 ∧ (0 : Int) ≤ x.1 ∧ x.1 < 512 ∧ (0 : Int) ≤ x.2 ∧ x.2 < 512) fun n => .all (fun (r : Bool) => r = bitB n.1 n.2) fun n_1 => .ex (fun (x : List UInt8) => n_1 = true → eqL [AV.str s] [AV.str x] ∧ x.length < 4611686018427387904) fun n_2 => .all (fun (x : Bool) => n_1 = true → x = qm n_2) fun n_3 => .ite ((bif n_1 then n_3 else false) == false) (.ex (fun (x : Int × Int) => eqL [AV.int .i64 q, AV.ptr 0 0] [AV.int .i64 x.2, AV.ptr 0 0] ∧ eqH [.box [AV.int .i64 n.1]] [.box [AV.int .i64 x.1]] ∧ 1 = 1 ∧ (0 : Int) ≤ x.1 ∧ x.1 < 512 ∧ (0 : Int) ≤ x.2 ∧ x.2 < 512) fun n => .all (fun (r : Bool) => r = bitB n.1 n.2) fun n_4 => .leaf (.ret [.bool (bif bif n_1 then n_3 else false then true else bif !n_4 then decide (s = Array.toList #[]) else false)] [.box [.fn 208 [] [.ptr 1 0]], .box [.int .i64 n.1]])) (.leaf (.ret [.bool (bif bif n_1 then n_3 else false then true else bif !false then decide (s = Array.toList #[]) else false)] [.box [.fn 208 [] [.ptr 1 0]], .box [.int .i64 n.1]]))) (by kernel_rfl) ?_
 simp only [Tree.holds, ze, inR, lo, hi, Int.toNat_natCast]
 refine ⟨(p, q), ⟨⟨⟨rfl, rfl⟩, ⟨rfl, rfl⟩, trivial⟩, ⟨⟨⟨rfl, rfl⟩, trivial⟩, trivial⟩, trivial, h1, h2, h3, h4⟩, ⟨_, rfl⟩, ?_⟩
 rintro b rfl
 refine ⟨s, fun _ => ⟨⟨rfl, trivial⟩, h5⟩, ⟨qm s, fun _ => rfl⟩, fun m hm => ⟨fun hb => ?_, fun hb => ?_⟩⟩
 ·refine ⟨(p, q), ⟨⟨⟨rfl, rfl⟩, ⟨rfl, rfl⟩, trivial⟩, ⟨⟨⟨rfl, rfl⟩, trivial⟩, trivial⟩, trivial, h1, h2, h3, h4⟩, ⟨_, rfl⟩, ?_⟩
  rintro b rfl
  refine RetR.keep [0, 1] rfl rfl (by show ∀ j, j < 2 → _; decide) rfl hq ?_ ?_ rfl
  ·simp only [exp2, exp1, exp0, resV, eqA2, jE]
   cases hbb : bitB p q with
   | true =>
    have := hm hbb
    rw [hbb] at hb
    subst this
    have : qm s = false := by simpa using hb
    rw [this]; rfl
   | false => simp; rfl
  ·exact ⟨⟨rfl, trivial⟩, ⟨⟨rfl, rfl⟩, trivial⟩, trivial⟩
 ·refine RetR.keep [0, 1] rfl rfl (by show ∀ j, j < 2 → _; decide) rfl hq ?_ ?_ rfl
  ·simp only [exp2, exp1, exp0, resV, eqA2, jE]
   cases hbb : bitB p q with
   | true =>
    have := hm hbb
    rw [hbb] at hb
    subst this
    have : qm s = true := by simpa using hb
    rw [this]; rfl
   | false => rw [hbb] at hb; simp at hb
  ·exact ⟨⟨rfl, trivial⟩, ⟨⟨rfl, rfl⟩, trivial⟩, trivial⟩
noncomputable def GNd : Nat → Option Ctr := fun f => if f = 208 then some (hasC) else if f = 209 then some (zfv) else if f = 22 then some ((uH 1)) else if f = 23 then some ((uH 2)) else if f = 204 then some (uy) else if f = 210 then some (Kf) else if f = 211 then some (Yy) else none
theorem yP : ∀ g c, GNd g = some c → zd Tryz.prog g c := okIf zah (okIf zeo (okIf zgu (okIf zae (okIf JA (okIf Jv (okIf ze7 (zx)))))))
end Go.Proofs.Tryz
end

/- Cutting a piece of code at a place that is not a loop's head. -/
section
namespace Go.Sx
variable [Stat]
section
variable {O : Nat → Prop} {pin : Nat} {w0 : World} {σ0 : List SE} {P : Program} {fn : Func}
def fstC : Code → Code
 | .seq a _ => a
 | c => c
def sndC : Code → Code
 | .seq _ b => b
 | c => c
def blkC : Code → Code
 | .block _ c => c
 | c => c
def blkI : Code → Nat
 | .block i _ => i
 | _ => 0
theorem zc.cut {M : Option Nat} {ι : Type} {Hs : Nat → KV → Heap → Prop} {R : List AV → Heap → Prop} {k : List Item} {c : Code} {st : St} (S : ι → KV) (H : ι → Heap) (dk : Nat)
  (h1 : z3 M P fn O pin w0 σ0 (fun d kv h => if d = dk then ∃ x, LeK pin fn.ntmps kv h (S x) (H x) else Hs d kv h) R (.code c :: .inLoop :: k) st) (hd : qZ k = dk)
  (h2 : ∀ x, z3 M P fn O pin w0 σ0 Hs R k (mk fn.ntmps (S x) (H x))) : z3 M P fn O pin w0 σ0 Hs R (.code c :: k) st := by
 subst hd
 intro w σ a hm
 have := h1 w σ a hm
 simp only [wpK] at this ⊢
 refine wpIn_mono this fun e a' w' he => ?_
 cases e with
 | normal =>
  simp only [wpK] at he
  obtain ⟨st', σ', ⟨kv, h, hh, rfl⟩, hm'⟩ := he
  rw [if_pos trivial] at hh
  obtain ⟨x, hle⟩ := hh
  exact h2 x w' _ a' (hle.le.mod hm')
 | _ =>
  simp only [wpK] at he
  refine qA (fun d a w hd hh => ?_) he
  obtain ⟨st', σ', ⟨kv, h, hh, rfl⟩, hm'⟩ := hh
  rw [if_neg (by omega)] at hh
  exact ⟨_, σ', ⟨kv, h, hh, rfl⟩, hm'⟩
theorem zc.seq {M : Option Nat} {Hs : Nat → KV → Heap → Prop} {R : List AV → Heap → Prop} {k : List Item} {c : Code} {st : St} (hc : c = .seq (fstC c) (sndC c))
  (h : z3 M P fn O pin w0 σ0 Hs R (.code (fstC c) :: .code (sndC c) :: k) st) : z3 M P fn O pin w0 σ0 Hs R (.code c :: k) st := by
 rw [hc]
 generalize fstC c = a at h
 generalize sndC c = b at h
 intro w σ act hm
 have := h w σ act hm
 simp only [wpK] at this ⊢
 refine wpIn_seq (wpIn_mono this fun e a w h => ?_)
 cases e <;> exact h
theorem zc.block {M : Option Nat} {Hs : Nat → KV → Heap → Prop} {R : List AV → Heap → Prop} {k : List Item} {c : Code} {st : St} (hc : c = .block (blkI c) (blkC c))
  (h : z3 M P fn O pin w0 σ0 Hs R (.code (blkC c) :: .inBlock (blkI c) :: k) st) : z3 M P fn O pin w0 σ0 Hs R (.code c :: k) st := by
 rw [hc]
 generalize blkC c = a at h
 generalize blkI c = i at h
 intro w σ act hm
 have := h w σ act hm
 simp only [wpK] at this ⊢
 refine wpIn_block (wpIn_mono this fun e a w h => ?_)
 cases e <;> exact h
end
end Go.Sx
end

/- Cutting a list of items. -/
section
namespace Go.Sx
variable [Stat]
section
variable {O : Nat → Prop} {pin : Nat} {w0 : World} {σ0 : List SE} {P : Program} {fn : Func}
def yV : Nat → Code → List Item
 | n + 1, .seq a b => .code a :: yV n b
 | _, c => [.code c]
theorem ZZ {M : Option Nat} {H : Nat → Act → World → Prop} {B : Exit → Act → World → Prop} {k : List Item} {e : Exit} (he : e ≠ .normal) {a : Act} {w : World} : ∀ (n : Nat) (c : Code), wpK M P H B (yV n c ++ k) e a w → wpK M P H B k e a w
 | 0, c, h => by cases c <;> cases e <;> first | exact absurd rfl he | exact h
 | n + 1, c, h => by
  cases c with
  | seq x y => cases e <;> first | exact absurd rfl he | exact ZZ he n y h
  | _ => cases e <;> first | exact absurd rfl he | exact h
theorem QE {M : Option Nat} {H : Nat → Act → World → Prop} {B : Exit → Act → World → Prop} : ∀ (n : Nat) (c : Code) (k : List Item) (a : Act) (w : World), wpK M P H B (yV n c ++ k) .normal a w → wpK M P H B (.code c :: k) .normal a w
 | 0, c, k, a, w, h => by cases c <;> exact h
 | n + 1, c, k, a, w, h => by
  cases c with
  | seq x y =>
   simp only [yV, List.cons_append, wpK] at h ⊢
   refine wpIn_seq (wpIn_mono h fun e a w h => ?_)
   cases e with
   | normal => exact QE n y k a w h
   | _ => exact ZZ (by simp) n y h
  | _ => exact h
theorem zc.spine {M : Option Nat} {Hs : Nat → KV → Heap → Prop} {R : List AV → Heap → Prop} {k : List Item} {c : Code} {st : St} (n : Nat) (h : z3 M P fn O pin w0 σ0 Hs R (Go.Sx.yV n c ++ k) st) : z3 M P fn O pin w0 σ0 Hs R (.code c :: k) st :=
 fun w σ a hm => QE n c k a w (h w σ a hm)
def Zx : Item → Bool
 | .inLoop => false
 | _ => true
theorem kj {M : Option Nat} {H H' : Nat → Act → World → Prop} {B : Exit → Act → World → Prop} {k : List Item} (h1 : ∀ a w, H' (qZ k) a w → wpK M P H B k .normal a w) (h2 : ∀ d a w, d < qZ k → H' d a w → H d a w) :
  ∀ (ks : List Item), ks.all Zx = true → ∀ (e : Exit) (a : Act) (w : World), wpK M P H' B (ks ++ .inLoop :: k) e a w → wpK M P H B (ks ++ k) e a w
 | [], _, e, a, w, h => by
  cases e with
  | normal => exact h1 a w h
  | _ => exact qA (k := k) (fun d a w hd h => h2 d a w hd h) h
 | .code c :: ks, hf, e, a, w, h => by
  have hf' : ks.all Zx = true := by simpa [Zx] using hf
  cases e with
  | normal => exact wpIn_mono h fun e a w h => kj h1 h2 ks hf' e a w h
  | _ => exact kj h1 h2 ks hf' _ a w h
 | .inBlock id :: ks, hf, e, a, w, h => by
  have hf' : ks.all Zx = true := by simpa [Zx] using hf
  cases e with
  | normal => exact kj h1 h2 ks hf' _ a w h
  | exit i =>
   simp only [List.cons_append, wpK] at h ⊢
   split at h
   ·rename_i hi; rw [if_pos hi]; exact kj h1 h2 ks hf' _ a w h
   ·rename_i hi; rw [if_neg hi]; exact kj h1 h2 ks hf' _ a w h
  | _ => exact kj h1 h2 ks hf' _ a w h
 | .inLoop :: ks, hf, e, a, w, h => by simp [Zx] at hf
theorem zc.cutL {M : Option Nat} {ι : Type} {Hs : Nat → KV → Heap → Prop} {R : List AV → Heap → Prop} {st : St} (L : List Item) (m dk : Nat) (S : ι → KV) (H : ι → Heap) (hf : (L.take m).all Zx = true) (hd : qZ (L.drop m) = dk)
  (h1 : z3 M P fn O pin w0 σ0 (fun d kv h => if d = dk then ∃ x, LeK pin fn.ntmps kv h (S x) (H x) else Hs d kv h) R (L.take m ++ .inLoop :: L.drop m) st)
  (h2 : ∀ x, z3 M P fn O pin w0 σ0 Hs R (L.drop m) (mk fn.ntmps (S x) (H x))) : z3 M P fn O pin w0 σ0 Hs R L st := by
 subst hd
 intro w σ a hm
 have := h1 w σ a hm
 rw [← List.take_append_drop m L]
 refine kj ?_ ?_ (L.take m) hf .normal a w this
 ·rintro a' w' ⟨st', σ', ⟨kv, h, hh, rfl⟩, hm'⟩
  rw [if_pos rfl] at hh
  obtain ⟨x, hle⟩ := hh
  exact h2 x w' _ a' (hle.le.mod hm')
 ·rintro d a' w' hd ⟨st', σ', ⟨kv, h, hh, rfl⟩, hm'⟩
  rw [if_neg (by omega)] at hh
  exact ⟨_, σ', ⟨kv, h, hh, rfl⟩, hm'⟩
end
end Go.Sx
end

/- Contracts: a node. -/
section
set_option maxRecDepth 100000
open Go Go.Sx Go.Proofs Go.Nov
def Go.Nov.Con.p (c : Con) : Int := ka c.kind
namespace Go.Proofs.Tryz
attribute [local simp] eqKV eqA eqA0 eqH eqB eqL eqL0
def za9 : Ctr := ctrP true (fun c : Con => [c.conA]) (fun c => c.big < 2 ^ 40) (fun c r => r = c.kF) (fun _ (r : Bool) => (.bool r, []))
noncomputable def LN : List Go.Sx.Item := yV 12 (Tryz.f121.body.getD .skip) ++ []
noncomputable def LN1 : List Go.Sx.Item := LN.drop 6
noncomputable def LN2 : List Go.Sx.Item := LN1.drop 1
noncomputable def LN3 : List Go.Sx.Item := LN2.drop 3
noncomputable def LN4 : List Go.Sx.Item := LN3.drop 1
noncomputable def LN5 : List Go.Sx.Item := LN4.drop 1
def HNd (c : Con) : Heap := [.box c.zh, .box [.int .i64 c.p], .box [.fn 208 [] [.ptr 1 0]]]
def SN1 : KV := [(1, .ptr 0 0), (5, .ptr 2 0), (6, .fn 209 [] [.ptr 2 0])]
def SN2 (a : Bool) : KV := [(1, .ptr 0 0), (4, .bool a), (5, .ptr 2 0)]
def SN3 (a : Bool) (m : Int) : KV := [(1, .ptr 0 0), (4, .bool a), (5, .ptr 2 0), (7, .int .i64 m)]
def SN4 (a : Bool) (m : Int) (b : Bool) : KV := [(1, .ptr 0 0), (4, .bool a), (5, .ptr 2 0), (7, .int .i64 m), (8, .bool b)]
def SN5 (a : Bool) (m : Int) (b d : Bool) : KV := [(1, .ptr 0 0), (4, .bool a), (7, .int .i64 m), (8, .bool b), (9, .bool d)]
namespace Nd
def words (c : Con) : Prop := jE (bitB c.p 1) c.src = true ∧ jE (bitB c.p 2) c.dst = true ∧ jE (bitB c.p 4) c.name = true ∧ ¬ (bitB c.p 2 = true ∧ c.src = c.dst)
def okX (c : Con) : Bool := if bitB c.p 8 = true then numX c.x else if bitB c.p 16 = true then truX c.x else qt c.x
def subs (c : Con) : Int := if bitB c.p 256 = true then 2 else if bitB c.p 128 = true then 1 else 0
def right (c : Con) : Bool := if bitB c.p 32 = true then dayB c.date else decide (c.date = 0)
def list (c : Con) : Bool := if bitB c.p 64 = true then wP c.days else decide (c.days.length = 0)
end Nd
theorem YQ (k : Int) : 0 ≤ ka k ∧ ka k < 512 := by
 unfold ka
 repeat' split
 all_goals decide
theorem Jt {c : Con} (hk : 1 ≤ c.kind ∧ c.kind ≤ 10) : c.kF = true ↔ Nd.words c ∧ Nd.okX c = true ∧ Nd.right c = true ∧ Nd.list c = true ∧ (c.sub.length : Int) = Nd.subs c := by
 have hr : c.kind = 1 ∨ c.kind = 2 ∨ c.kind = 3 ∨ c.kind = 4 ∨ c.kind = 5 ∨ c.kind = 6 ∨ c.kind = 7 ∨ c.kind = 8 ∨ c.kind = 9 ∨ c.kind = 10 := by omega
 unfold Con.kF vG Nd.words Nd.okX Nd.right Nd.list Nd.subs Con.p ka jE bitB
 generalize c.kind = k at hr hk
 generalize c.src = a
 generalize c.dst = b
 generalize c.name = n
 generalize c.x = x
 generalize c.date = d
 generalize c.days = l
 generalize c.sub.length = m
 rcases hr with rfl | rfl | rfl | rfl | rfl | rfl | rfl | rfl | rfl | rfl
 all_goals
  simp
  grind
theorem Vw {c : Con} (h : ¬ ((1 ≤ c.kind ∧ c.kind ≤ 10) ∧ Nd.words c)) : c.kF = false := by
 by_cases hk : 1 ≤ c.kind ∧ c.kind ≤ 10
 ·rw [Bool.eq_false_iff]
  exact fun hh => h ⟨hk, ((Jt hk).1 hh).1⟩
 ·unfold Con.kF vG
  rw [if_neg (by omega), if_neg (by omega), if_neg (by omega), if_neg (by omega), if_neg (by omega), if_neg (by omega), if_neg (by omega), if_neg (by omega), if_neg (by omega)]
theorem zdy : zd Tryz.prog 121 za9 := by
 refine zk (fn := Tryz.f121) (c := Tryz.f121.body.getD .skip) rfl rfl rfl fun c hc O w0 Q hq => ?_
 replace hq := hq _ rfl
 have hb := hc
 rw [Con.w7] at hb
 obtain ⟨hp0, hp1⟩ := YQ c.kind
 refine zc.spine 12 ?_
 refine zc.cutL (ι := {u : Unit // (1 ≤ c.kind ∧ c.kind ≤ 10) ∧ Nd.words c}) LN 6 0 (fun _ => SN1) (fun _ => HNd c) (by kernel_rfl) (by kernel_rfl) ?_ ?_
 ·refine zc.run hmix yP [1, 5, 6] 400 (T := .ite (decide ((1 : Int) ≤ Con.kind c ∧ Con.kind c ≤ 10)) (.ite false (.leaf (.ret [.bool false] [.box (Con.zh c), .box [.int .i64 (ka (Con.kind c))]])) (.ex (fun (x : Int × Int × List UInt8) => eqL [AV.int .i64 1, AV.str (Con.src c), AV.ptr 0 0] [AV.int .i64 x.2.1, AV.str x.2.2, AV.ptr 0 0] ∧ eqH [.box [AV.fn 208 [] [AV.ptr 1 0]], .box [AV.int .i64 (ka (Con.kind c))]] [.box [AV.fn 208 [] [AV.ptr 1 0]], .box [AV.int .i64 x.1]] ∧ 2 = 2 ∧ (0 : Int) ≤ x.1 ∧ x.1 < 512 ∧ (0 : Int) ≤ x.2.1 ∧ x.2.1 < 512 ∧ x.2.2.length < 4611686018427387904) fun n => .all (fun (r : Bool) => r = jE (bitB n.1 n.2.1) n.2.2) fun n_1 => .ite ((!n_1) == false) (.ex (fun (x : Int × Int × List UInt8) => eqL [AV.int .i64 2, AV.str (Con.dst c), AV.ptr 0 0] [AV.int .i64 x.2.1, AV.str x.2.2, AV.ptr 0 0] ∧ eqH [.box [AV.fn 208 [] [AV.ptr 1 0]], .box [AV.int .i64 n.1]] [.box [AV.fn 208 [] [AV.ptr 1 0]], .box [AV.int .i64 x.1]] ∧ 2 = 2 ∧ (0 : Int) ≤ x.1 ∧ x.1 < 512 ∧ (0 : Int) ≤ x.2.1 ∧ x.2.1 < 512 ∧ x.2.2.length < 4611686018427387904) fun n => .all (fun (r : Bool) => r = jE (bitB n.1 n.2.1) n.2.2) fun n_2 => .ite ((bif !n_1 then true else !n_2) == false) (.ex (fun (x : Int × Int × List UInt8) => eqL [AV.int .i64 4, AV.str (Con.name c), AV.ptr 0 0] [AV.int .i64 x.2.1, AV.str x.2.2, AV.ptr 0 0] ∧ eqH [.box [AV.fn 208 [] [AV.ptr 1 0]], .box [AV.int .i64 n.1]] [.box [AV.fn 208 [] [AV.ptr 1 0]], .box [AV.int .i64 x.1]] ∧ 2 = 2 ∧ (0 : Int) ≤ x.1 ∧ x.1 < 512 ∧ (0 : Int) ≤ x.2.1 ∧ x.2.1 < 512 ∧ x.2.2.length < 4611686018427387904) fun n => .all (fun (r : Bool) => r = jE (bitB n.1 n.2.1) n.2.2) fun n_3 => .ite ((bif bif !n_1 then true else !n_2 then true else !n_3) == false) (.ex (fun (x : Int × Int) => eqL [AV.int .i64 2, AV.ptr 0 0] [AV.int .i64 x.2, AV.ptr 0 0] ∧ eqH [.box [AV.int .i64 n.1]] [.box [AV.int .i64 x.1]] ∧ 1 = 1 ∧ (0 : Int) ≤ x.1 ∧ x.1 < 512 ∧ (0 : Int) ≤ x.2 ∧ x.2 < 512) fun n => .all (fun (r : Bool) => r = bitB n.1 n.2) fun n_4 => .ite (bif bif bif !n_1 then true else !n_2 then true else !n_3 then true else bif n_4 then decide (Con.src c = Con.dst c) else false) (.leaf (.ret [.bool false] [.box (Con.zh c), .box [.int .i64 n.1], .box [.fn 208 [] [.ptr 1 0]]])) (.leaf (.back 0 [(1, .ptr 0 0), (5, .ptr 2 0), (6, .fn 209 [] [.ptr 2 0])] [.box (Con.zh c), .box [.int .i64 n.1], .box [.fn 208 [] [.ptr 1 0]]]))) (.ite (bif bif bif !n_1 then true else !n_2 then true else !n_3 then true else bif false then decide (Con.src c = Con.dst c) else false) (.leaf (.ret [.bool false] [.box (Con.zh c), .box [.int .i64 n.1], .box [.fn 208 [] [.ptr 1 0]]])) (.leaf (.back 0 [(1, .ptr 0 0), (5, .ptr 2 0), (6, .fn 209 [] [.ptr 2 0])] [.box (Con.zh c), .box [.int .i64 n.1], .box [.fn 208 [] [.ptr 1 0]]])))) (.ite ((bif bif !n_1 then true else !n_2 then true else !false) == false) (.ex (fun (x : Int × Int) => eqL [AV.int .i64 2, AV.ptr 0 0] [AV.int .i64 x.2, AV.ptr 0 0] ∧ eqH [.box [AV.int .i64 n.1]] [.box [AV.int .i64 x.1]] ∧ 1 = 1 ∧ (0 : Int) ≤ x.1 ∧ x.1 < 512 ∧ (0 : Int) ≤ x.2 ∧ x.2 < 512) fun n => .all (fun (r : Bool) => r = bitB n.1 n.2) fun n_3 => .ite (bif bif bif !n_1 then true else !n_2 then true else !false then true else bif n_3 then decide (Con.src c = Con.dst c) else false) (.leaf (.ret [.bool false] [.box (Con.zh c), .box [.int .i64 n.1], .box [.fn 208 [] [.ptr 1 0]]])) (.leaf (.back 0 [(1, .ptr 0 0), (5, .ptr 2 0), (6, .fn 209 [] [.ptr 2 0])] [.box (Con.zh c), .box [.int .i64 n.1], .box [.fn 208 [] [.ptr 1 0]]]))) (.ite (bif bif bif !n_1 then true else !n_2 then true else !false then true else bif false then decide (Con.src c = Con.dst c) else false) (.leaf (.ret [.bool false] [.box (Con.zh c), .box [.int .i64 n.1], .box [.fn 208 [] [.ptr 1 0]]])) (.leaf (.back 0 [(1, .ptr 0 0), (5, .ptr 2 0), (6, .fn 209 [] [.ptr 2 0])] [.box (Con.zh c), .box [.int .i64 n.1], .box [.fn 208 [] [.ptr 1 0]]]))))) (.ite ((bif !n_1 then true else !false) == false) (.ex (fun (x : Int × Int × List UInt8) => eqL [AV.int .i64 4, AV.str (Con.name c), AV.ptr 0 0] [AV.int .i64 x.2.1, AV.str x.2.2, AV.ptr 0 0] ∧ eqH [.box [AV.fn 208 [] [AV.ptr 1 0]], .box [AV.int .i64 n.1]] [.box [AV.fn 208 [] [AV.ptr 1 0]], .box [AV.int .i64 x.1]] ∧ 2 = 2 ∧ (0 : Int) ≤ x.1 ∧ x.1 < 512 ∧ (0 : Int) ≤ x.2.1 ∧ x.2.1 < 512 ∧ x.2.2.length < 4611686018427387904) fun n => .all (fun (r : Bool) => r = jE (bitB n.1 n.2.1) n.2.2) fun n_2 => .ite ((bif bif !n_1 then true else !false then true else !n_2) == false) (.ex (fun (x : Int × Int) => eqL [AV.int .i64 2, AV.ptr 0 0] [AV.int .i64 x.2, AV.ptr 0 0] ∧ eqH [.box [AV.int .i64 n.1]] [.box [AV.int .i64 x.1]] ∧ 1 = 1 ∧ (0 : Int) ≤ x.1 ∧ x.1 < 512 ∧ (0 : Int) ≤ x.2 ∧ x.2 < 512) fun n => .all (fun (r : Bool) => r = bitB n.1 n.2) fun n_3 => .ite (bif bif bif !n_1 then true else !false then true else !n_2 then true else bif n_3 then decide (Con.src c = Con.dst c) else false) (.leaf (.ret [.bool false] [.box (Con.zh c), .box [.int .i64 n.1], .box [.fn 208 [] [.ptr 1 0]]])) (.leaf (.back 0 [(1, .ptr 0 0), (5, .ptr 2 0), (6, .fn 209 [] [.ptr 2 0])] [.box (Con.zh c), .box [.int .i64 n.1], .box [.fn 208 [] [.ptr 1 0]]]))) (.ite (bif bif bif !n_1 then true else !false then true else !n_2 then true else bif false then decide (Con.src c = Con.dst c) else false) (.leaf (.ret [.bool false] [.box (Con.zh c), .box [.int .i64 n.1], .box [.fn 208 [] [.ptr 1 0]]])) (.leaf (.back 0 [(1, .ptr 0 0), (5, .ptr 2 0), (6, .fn 209 [] [.ptr 2 0])] [.box (Con.zh c), .box [.int .i64 n.1], .box [.fn 208 [] [.ptr 1 0]]])))) (.ite ((bif bif !n_1 then true else !false then true else !false) == false) (.ex (fun (x : Int × Int) => eqL [AV.int .i64 2, AV.ptr 0 0] [AV.int .i64 x.2, AV.ptr 0 0] ∧ eqH [.box [AV.int .i64 n.1]] [.box [AV.int .i64 x.1]] ∧ 1 = 1 ∧ (0 : Int) ≤ x.1 ∧ x.1 < 512 ∧ (0 : Int) ≤ x.2 ∧ x.2 < 512) fun n => .all (fun (r : Bool) => r = bitB n.1 n.2) fun n_2 => .ite (bif bif bif !n_1 then true else !false then true else !false then true else bif n_2 then decide (Con.src c = Con.dst c) else false) (.leaf (.ret [.bool false] [.box (Con.zh c), .box [.int .i64 n.1], .box [.fn 208 [] [.ptr 1 0]]])) (.leaf (.back 0 [(1, .ptr 0 0), (5, .ptr 2 0), (6, .fn 209 [] [.ptr 2 0])] [.box (Con.zh c), .box [.int .i64 n.1], .box [.fn 208 [] [.ptr 1 0]]]))) (.ite (bif bif bif !n_1 then true else !false then true else !false then true else bif false then decide (Con.src c = Con.dst c) else false) (.leaf (.ret [.bool false] [.box (Con.zh c), .box [.int .i64 n.1], .box [.fn 208 [] [.ptr 1 0]]])) (.leaf (.back 0 [(1, .ptr 0 0), (5, .ptr 2 0), (6, .fn 209 [] [.ptr 2 0])] [.box (Con.zh c), .box [.int .i64 n.1], .box [.fn 208 [] [.ptr 1 0]]]))))))) (.ite true (.leaf (.ret [.bool false] [.box (Con.zh c), .box [.int .i64 0]])) (.ex (fun (x : Int × Int × List UInt8) => eqL [AV.int .i64 1, AV.str (Con.src c), AV.ptr 0 0] [AV.int .i64 x.2.1, AV.str x.2.2, AV.ptr 0 0] ∧ eqH [.box [AV.fn 208 [] [AV.ptr 1 0]], .box [AV.int .i64 0]] [.box [AV.fn 208 [] [AV.ptr 1 0]], .box [AV.int .i64 x.1]] ∧ 2 = 2 ∧ (0 : Int) ≤ x.1 ∧ x.1 < 512 ∧ (0 : Int) ≤ x.2.1 ∧ x.2.1 < 512 ∧ x.2.2.length < 4611686018427387904) fun n => .all (fun (r : Bool) => r = jE (bitB n.1 n.2.1) n.2.2) fun n_1 => .ite ((!n_1) == false) (.ex (fun (x : Int × Int × List UInt8) => eqL [AV.int .i64 2, AV.str (Con.dst c), AV.ptr 0 0] [AV.int .i64 x.2.1, AV.str x.2.2, AV.ptr 0 0] ∧ eqH [.box [AV.fn 208 [] [AV.ptr 1 0]], .box [AV.int .i64 n.1]] [.box [AV.fn 208 [] [AV.ptr 1 0]], .box [AV.int .i64 x.1]] ∧ 2 = 2 ∧ (0 : Int) ≤ x.1 ∧ x.1 < 512 ∧ (0 : Int) ≤ x.2.1 ∧ x.2.1 < 512 ∧ x.2.2.length < 4611686018427387904) fun n => .all (fun (r : Bool) => r = jE (bitB n.1 n.2.1) n.2.2) fun n_2 => .ite ((bif !n_1 then true else !n_2) == false) (.ex (fun (x : Int × Int × List UInt8) => eqL [AV.int .i64 4, AV.str (Con.name c), AV.ptr 0 0] [AV.int .i64 x.2.1, AV.str x.2.2, AV.ptr 0 0] ∧ eqH [.box [AV.fn 208 [] [AV.ptr 1 0]], .box [AV.int .i64 n.1]] [.box [AV.fn 208 [] [AV.ptr 1 0]], .box [AV.int .i64 x.1]] ∧ 2 = 2 ∧ (0 : Int) ≤ x.1 ∧ x.1 < 512 ∧ (0 : Int) ≤ x.2.1 ∧ x.2.1 < 512 ∧ x.2.2.length < 4611686018427387904) fun n => .all (fun (r : Bool) => r = jE (bitB n.1 n.2.1) n.2.2) fun n_3 => .ite ((bif bif !n_1 then true else !n_2 then true else !n_3) == false) (.ex (fun (x : Int × Int) => eqL [AV.int .i64 2, AV.ptr 0 0] [AV.int .i64 x.2, AV.ptr 0 0] ∧ eqH [.box [AV.int .i64 n.1]] [.box [AV.int .i64 x.1]] ∧ 1 = 1 ∧ (0 : Int) ≤ x.1 ∧ x.1 < 512 ∧ (0 : Int) ≤ x.2 ∧ x.2 < 512) fun n => .all (fun (r : Bool) => r = bitB n.1 n.2) fun n_4 => .ite (bif bif bif !n_1 then true else !n_2 then true else !n_3 then true else bif n_4 then decide (Con.src c = Con.dst c) else false) (.leaf (.ret [.bool false] [.box (Con.zh c), .box [.int .i64 n.1], .box [.fn 208 [] [.ptr 1 0]]])) (.leaf (.back 0 [(1, .ptr 0 0), (5, .ptr 2 0), (6, .fn 209 [] [.ptr 2 0])] [.box (Con.zh c), .box [.int .i64 n.1], .box [.fn 208 [] [.ptr 1 0]]]))) (.ite (bif bif bif !n_1 then true else !n_2 then true else !n_3 then true else bif false then decide (Con.src c = Con.dst c) else false) (.leaf (.ret [.bool false] [.box (Con.zh c), .box [.int .i64 n.1], .box [.fn 208 [] [.ptr 1 0]]])) (.leaf (.back 0 [(1, .ptr 0 0), (5, .ptr 2 0), (6, .fn 209 [] [.ptr 2 0])] [.box (Con.zh c), .box [.int .i64 n.1], .box [.fn 208 [] [.ptr 1 0]]])))) (.ite ((bif bif !n_1 then true else !n_2 then true else !false) == false) (.ex (fun (x : Int × Int) => eqL [AV.int .i64 2, AV.ptr 0 0] [AV.int .i64 x.2, AV.ptr 0 0] ∧ eqH [.box [AV.int .i64 n.1]] [.box [AV.int .i64 x.1]] ∧ 1 = 1 ∧ (0 : Int) ≤ x.1 ∧ x.1 < 512 ∧ (0 : Int) ≤ x.2 ∧ x.2 < 512) fun n => .all (fun (r : Bool) => r = bitB n.1 n.2) fun n_3 => .ite (bif bif bif !n_1 then true else !n_2 then true else !false then true else bif n_3 then decide (Con.src c = Con.dst c) else false) (.leaf (.ret [.bool false] [.box (Con.zh c), .box [.int .i64 n.1], .box [.fn 208 [] [.ptr 1 0]]])) (.leaf (.back 0 [(1, .ptr 0 0), (5, .ptr 2 0), (6, .fn 209 [] [.ptr 2 0])] [.box (Con.zh c), .box [.int .i64 n.1], .box [.fn 208 [] [.ptr 1 0]]]))) (.ite (bif bif bif !n_1 then true else !n_2 then true else !false then true else bif false then decide (Con.src c = Con.dst c) else false) (.leaf (.ret [.bool false] [.box (Con.zh c), .box [.int .i64 n.1], .box [.fn 208 [] [.ptr 1 0]]])) (.leaf (.back 0 [(1, .ptr 0 0), (5, .ptr 2 0), (6, .fn 209 [] [.ptr 2 0])] [.box (Con.zh c), .box [.int .i64 n.1], .box [.fn 208 [] [.ptr 1 0]]]))))) (.ite ((bif !n_1 then true else !false) == false) (.ex (fun (x : Int × Int × List UInt8) => eqL [AV.int .i64 4, AV.str (Con.name c), AV.ptr 0 0] [AV.int .i64 x.2.1, AV.str x.2.2, AV.ptr 0 0] ∧ eqH [.box [AV.fn 208 [] [AV.ptr 1 0]], .box [AV.int .i64 n.1]] [.box [AV.fn 208 [] [AV.ptr 1 0]], .box [AV.int .i64 x.1]] ∧ 2 = 2 ∧ (0 : Int) ≤ x.1 ∧ x.1 < 512 ∧ (0 : Int) ≤ x.2.1 ∧ x.2.1 < 512 ∧ x.2.2.length < 4611686018427387904) fun n => .all (fun (r : Bool) => r = jE (bitB n.1 n.2.1) n.2.2) fun n_2 => .ite ((bif bif !n_1 then true else !false then true else !n_2) == false) (.ex (fun (x : Int × Int) => eqL [AV.int .i64 2, AV.ptr 0 0] [AV.int .i64 x.2, AV.ptr 0 0] ∧ eqH [.box [AV.int .i64 n.1]] [.box [AV.int .i64 x.1]] ∧ 1 = 1 ∧ (0 : Int) ≤ x.1 ∧ x.1 < 512 ∧ (0 : Int) ≤ x.2 ∧ x.2 < 512) fun n => .all (fun (r : Bool) => r = bitB n.1 n.2) fun n_3 => .ite (bif bif bif !n_1 then true else !false then true else !n_2 then true else bif n_3 then decide (Con.src c = Con.dst c) else false) (.leaf (.ret [.bool false] [.box (Con.zh c), .box [.int .i64 n.1], .box [.fn 208 [] [.ptr 1 0]]])) (.leaf (.back 0 [(1, .ptr 0 0), (5, .ptr 2 0), (6, .fn 209 [] [.ptr 2 0])] [.box (Con.zh c), .box [.int .i64 n.1], .box [.fn 208 [] [.ptr 1 0]]]))) (.ite (bif bif bif !n_1 then true else !false then true else !n_2 then true else bif false then decide (Con.src c = Con.dst c) else false) (.leaf (.ret [.bool false] [.box (Con.zh c), .box [.int .i64 n.1], .box [.fn 208 [] [.ptr 1 0]]])) (.leaf (.back 0 [(1, .ptr 0 0), (5, .ptr 2 0), (6, .fn 209 [] [.ptr 2 0])] [.box (Con.zh c), .box [.int .i64 n.1], .box [.fn 208 [] [.ptr 1 0]]])))) (.ite ((bif bif !n_1 then true else !false then true else !false) == false) (.ex (fun (x : Int × Int) => eqL [AV.int .i64 2, AV.ptr 0 0] [AV.int .i64 x.2, AV.ptr 0 0] ∧ eqH [.box [AV.int .i64 n.1]] [.box [AV.int .i64 x.1]] ∧ 1 = 1 ∧ (0 : Int) ≤ x.1 ∧ x.1 < 512 ∧ (0 : Int) ≤ x.2 ∧ x.2 < 512) fun n => .all (fun (r : Bool) => r = bitB n.1 n.2) fun n_2 => .ite (bif bif bif !n_1 then true else !false then true else !false then true else bif n_2 then decide (Con.src c = Con.dst c) else false) (.leaf (.ret [.bool false] [.box (Con.zh c), .box [.int .i64 n.1], .box [.fn 208 [] [.ptr 1 0]]])) (.leaf (.back 0 [(1, .ptr 0 0), (5, .ptr 2 0), (6, .fn 209 [] [.ptr 2 0])] [.box (Con.zh c), .box [.int .i64 n.1], .box [.fn 208 [] [.ptr 1 0]]]))) (.ite (bif bif bif !n_1 then true else !false then true else !false then true else bif false then decide (Con.src c = Con.dst c) else false) (.leaf (.ret [.bool false] [.box (Con.zh c), .box [.int .i64 n.1], .box [.fn 208 [] [.ptr 1 0]]])) (.leaf (.back 0 [(1, .ptr 0 0), (5, .ptr 2 0), (6, .fn 209 [] [.ptr 2 0])] [.box (Con.zh c), .box [.int .i64 n.1], .box [.fn 208 [] [.ptr 1 0]]])))))))) (by kernel_rfl) ?_
  simp only [Tree.holds, ze, inR, lo, hi, Int.toNat_natCast]
  obtain ⟨b1, e1⟩ : ∃ b, jE (bitB c.p 1) c.src = b := ⟨_, rfl⟩
  obtain ⟨b2, e2⟩ : ∃ b, jE (bitB c.p 2) c.dst = b := ⟨_, rfl⟩
  obtain ⟨b3, e3⟩ : ∃ b, jE (bitB c.p 4) c.name = b := ⟨_, rfl⟩
  obtain ⟨b4, e4⟩ : ∃ b, bitB c.p 2 = b := ⟨_, rfl⟩
  obtain ⟨b5, e5⟩ : ∃ b, decide (c.src = c.dst) = b := ⟨_, rfl⟩
  have hbad : ¬ ((1 ≤ c.kind ∧ c.kind ≤ 10) ∧ Nd.words c) → ∀ h, RetR za9 0 Q [.bool false] h := fun hn h => by
   have : c.kF = false := Vw hn
   rw [this] at hq
   exact RetR.scal hq rfl (by simp [resV])
  refine ⟨fun hk => ⟨fun h => (by cases h), fun _ => ?_⟩, fun hk => ?_⟩
  ·have hk := of_decide_eq_true hk
   refine ⟨(c.p, 1, c.src), ⟨by simp, by simp [Con.p], trivial, hp0, hp1, (by simp only; omega), (by simp only; omega), by simp only; omega⟩, ⟨_, rfl⟩, ?_⟩
   rintro _ rfl
   simp only [e1]
   cases b1 with
   | false => exact ⟨fun h => by simp at h, fun _ => ⟨fun h => by simp at h, fun _ => ⟨fun h => by simp at h, fun _ => ⟨fun _ => hbad (fun h => by have := h.2.1; rw [e1] at this; cases this) _, fun h => by simp at h⟩⟩⟩⟩
   | true =>
   refine ⟨fun _ => ?_, fun h => by simp at h⟩
   refine ⟨(c.p, 2, c.dst), ⟨by simp, by simp [Con.p], trivial, hp0, hp1, (by simp only; omega), (by simp only; omega), by simp only; omega⟩, ⟨_, rfl⟩, ?_⟩
   rintro _ rfl
   simp only [e2]
   cases b2 with
   | false => exact ⟨fun h => by simp at h, fun _ => ⟨fun h => by simp at h, fun _ => ⟨fun _ => hbad (fun h => by have := h.2.2.1; rw [e2] at this; cases this) _, fun h => by simp at h⟩⟩⟩
   | true =>
   refine ⟨fun _ => ?_, fun h => by simp at h⟩
   refine ⟨(c.p, 4, c.name), ⟨by simp, by simp [Con.p], trivial, hp0, hp1, (by simp only; omega), (by simp only; omega), by simp only; omega⟩, ⟨_, rfl⟩, ?_⟩
   rintro _ rfl
   simp only [e3]
   cases b3 with
   | false => exact ⟨fun h => by simp at h, fun _ => ⟨fun _ => hbad (fun h => by have := h.2.2.2.1; rw [e3] at this; cases this) _, fun h => by simp at h⟩⟩
   | true =>
   refine ⟨fun _ => ?_, fun h => by simp at h⟩
   refine ⟨(c.p, 2), ⟨by simp, by simp [Con.p], trivial, hp0, hp1, (by simp only; omega), (by simp only; omega)⟩, ⟨_, rfl⟩, ?_⟩
   rintro _ rfl
   simp only [e4]
   refine ⟨fun h => ?_, fun h => ?_⟩
   ·refine hbad (fun hn => hn.2.2.2.2 ?_) _
    cases b4 with
    | false => simp at h
    | true => exact ⟨e4, by simpa using h⟩
   ·rw [if_pos trivial]
    refine ⟨⟨(), hk, e1, e2, e3, fun hh => ?_⟩, by simp [SN1], ⟨zq c, ⟨⟨rfl, rfl⟩, trivial⟩, ⟨rfl, trivial⟩, trivial⟩, by kernel_rfl, Nat.zero_le _⟩
    rw [e4] at hh
    rw [hh.1] at h
    simp [hh.2] at h
  ·have hk := of_decide_eq_false hk
   refine ⟨fun _ => hbad (fun h => hk h.1) _, fun h => by cases h⟩
 ·rintro ⟨_, hk, hw⟩
  show z3 none Tryz.prog Tryz.f121 O 0 w0 [] _ _ LN1 _
  refine zc.cutL (ι := Unit) LN1 1 0 (fun _ => SN2 (Nd.okX c)) (fun _ => HNd c) (by kernel_rfl) (by kernel_rfl) ?_ ?_
  ·refine zc.run hmix yP [1, 4, 5] 400 (T := .ex (fun (x : Int × Int) => eqL [AV.int .i64 8, AV.ptr 0 0] [AV.int .i64 x.2, AV.ptr 0 0] ∧ eqH [.box [AV.int .i64 (Con.p c)]] [.box [AV.int .i64 x.1]] ∧ 1 = 1 ∧ (0 : Int) ≤ x.1 ∧ x.1 < 512 ∧ (0 : Int) ≤ x.2 ∧ x.2 < 512) fun n => .all (fun (r : Bool) => r = bitB n.1 n.2) fun n_1 => .ite n_1 (.ex (fun (x : Ex) => eqL [(Ex.exA (Con.x c))] [x.exA] ∧ Ex.size x < 1099511627776 ∧ Ex.z8 x < 1099511627776) fun n_2 => .all (fun (r : Bool) => r = (decide (Ex.errX n_2 = 0) && decide (Ex.qn n_2 = 1))) fun n_3 => .leaf (.back 0 [(1, .ptr 0 0), (4, .bool n_3), (5, .ptr 2 0)] [.box (Con.zh c), .box [.int .i64 n.1], .box [.fn 208 [] [.ptr 1 0]]])) (.ex (fun (x : Int × Int) => eqL [AV.int .i64 16, AV.ptr 0 0] [AV.int .i64 x.2, AV.ptr 0 0] ∧ eqH [.box [AV.int .i64 n.1]] [.box [AV.int .i64 x.1]] ∧ 1 = 1 ∧ (0 : Int) ≤ x.1 ∧ x.1 < 512 ∧ (0 : Int) ≤ x.2 ∧ x.2 < 512) fun n => .all (fun (r : Bool) => r = bitB n.1 n.2) fun n_2 => .ite n_2 (.ex (fun (x : Ex) => eqL [(Ex.exA (Con.x c))] [x.exA] ∧ Ex.size x < 1099511627776 ∧ Ex.z8 x < 1099511627776) fun n_3 => .all (fun (r : Bool) => r = (decide (Ex.errX n_3 = 0) && decide (Ex.qn n_3 = 2))) fun n_4 => .leaf (.back 0 [(1, .ptr 0 0), (4, .bool n_4), (5, .ptr 2 0)] [.box (Con.zh c), .box [.int .i64 n.1], .box [.fn 208 [] [.ptr 1 0]]])) (.ex (fun (x : Ex) => eqL [(Ex.exA (Con.x c))] [x.exA] ∧ True) fun n_3 => .all (fun (r : Bool) => r = qt n_3) fun n_4 => .leaf (.back 0 [(1, .ptr 0 0), (4, .bool n_4), (5, .ptr 2 0)] [.box (Con.zh c), .box [.int .i64 n.1], .box [.fn 208 [] [.ptr 1 0]]])))) (by kernel_rfl) ?_
   simp only [Tree.holds, ze, inR, lo, hi, Int.toNat_natCast]
   have hx1 : c.x.size < 2 ^ 40 := by omega
   have hx2 : c.x.z8 < 2 ^ 40 := by omega
   have leaf : ∀ b, b = Nd.okX c → LeK 0 Tryz.f121.ntmps [(1, .ptr 0 0), (4, .bool b), (5, .ptr 2 0)] (HNd c) (SN2 (Nd.okX c)) (HNd c) := fun b hb => by
    subst hb
    exact ⟨by simp [SN2], ⟨zq c, ⟨⟨rfl, rfl⟩, trivial⟩, ⟨rfl, trivial⟩, trivial⟩, by kernel_rfl, Nat.zero_le _⟩
   refine ⟨(c.p, 8), ⟨by simp, by simp, trivial, hp0, hp1, (by simp only; omega), (by simp only; omega)⟩, ⟨_, rfl⟩, ?_⟩
   rintro _ rfl
   refine ⟨fun h => ?_, fun h => ?_⟩
   ·refine ⟨c.x, ⟨(by first | exact ⟨zK _, trivial⟩ | simp [za]), hx1, hx2⟩, ⟨_, rfl⟩, ?_⟩
    rintro _ rfl
    rw [if_pos trivial]
    exact ⟨(), leaf _ (by unfold Nd.okX; rw [if_pos h]; rfl)⟩
   ·have h8 : ¬ bitB c.p 8 = true := by simpa using h
    refine ⟨(c.p, 16), ⟨by simp, by simp, trivial, hp0, hp1, (by simp only; omega), (by simp only; omega)⟩, ⟨_, rfl⟩, ?_⟩
    rintro _ rfl
    refine ⟨fun h => ?_, fun h => ?_⟩
    ·refine ⟨c.x, ⟨(by first | exact ⟨zK _, trivial⟩ | simp [za]), hx1, hx2⟩, ⟨_, rfl⟩, ?_⟩
     rintro _ rfl
     rw [if_pos trivial]
     exact ⟨(), leaf _ (by unfold Nd.okX; rw [if_neg h8, if_pos h]; rfl)⟩
    ·refine ⟨c.x, ⟨(by first | exact ⟨zK _, trivial⟩ | simp [za]), trivial⟩, ⟨_, rfl⟩, ?_⟩
     rintro _ rfl
     rw [if_pos trivial]
     exact ⟨(), leaf _ (by unfold Nd.okX; rw [if_neg h8, if_neg (by simpa using h)])⟩
  ·rintro ⟨⟩
   obtain ⟨a, ea⟩ : ∃ a, Nd.okX c = a := ⟨_, rfl⟩
   rw [ea]
   show z3 none Tryz.prog Tryz.f121 O 0 w0 [] _ _ LN2 _
   refine zc.cutL (ι := Unit) LN2 3 0 (fun _ => SN3 a (Nd.subs c)) (fun _ => HNd c) (by kernel_rfl) (by kernel_rfl) ?_ ?_
   ·refine zc.run hmix yP [1, 4, 5, 7] 400 (T := .ex (fun (x : Int × Int) => eqL [AV.int .i64 128, AV.ptr 0 0] [AV.int .i64 x.2, AV.ptr 0 0] ∧ eqH [.box [AV.int .i64 (Con.p c)]] [.box [AV.int .i64 x.1]] ∧ 1 = 1 ∧ (0 : Int) ≤ x.1 ∧ x.1 < 512 ∧ (0 : Int) ≤ x.2 ∧ x.2 < 512) fun n => .all (fun (r : Bool) => r = bitB n.1 n.2) fun n_1 => .ite n_1 (.ex (fun (x : Int × Int) => eqL [AV.int .i64 256, AV.ptr 0 0] [AV.int .i64 x.2, AV.ptr 0 0] ∧ eqH [.box [AV.int .i64 n.1]] [.box [AV.int .i64 x.1]] ∧ 1 = 1 ∧ (0 : Int) ≤ x.1 ∧ x.1 < 512 ∧ (0 : Int) ≤ x.2 ∧ x.2 < 512) fun n => .all (fun (r : Bool) => r = bitB n.1 n.2) fun n_2 => .ite n_2 (.leaf (.back 0 [(1, .ptr 0 0), (4, .bool a), (5, .ptr 2 0), (7, .int .i64 2)] [.box (Con.zh c), .box [.int .i64 n.1], .box [.fn 208 [] [.ptr 1 0]]])) (.leaf (.back 0 [(1, .ptr 0 0), (4, .bool a), (5, .ptr 2 0), (7, .int .i64 1)] [.box (Con.zh c), .box [.int .i64 n.1], .box [.fn 208 [] [.ptr 1 0]]]))) (.ex (fun (x : Int × Int) => eqL [AV.int .i64 256, AV.ptr 0 0] [AV.int .i64 x.2, AV.ptr 0 0] ∧ eqH [.box [AV.int .i64 n.1]] [.box [AV.int .i64 x.1]] ∧ 1 = 1 ∧ (0 : Int) ≤ x.1 ∧ x.1 < 512 ∧ (0 : Int) ≤ x.2 ∧ x.2 < 512) fun n => .all (fun (r : Bool) => r = bitB n.1 n.2) fun n_2 => .ite n_2 (.leaf (.back 0 [(1, .ptr 0 0), (4, .bool a), (5, .ptr 2 0), (7, .int .i64 2)] [.box (Con.zh c), .box [.int .i64 n.1], .box [.fn 208 [] [.ptr 1 0]]])) (.leaf (.back 0 [(1, .ptr 0 0), (4, .bool a), (5, .ptr 2 0), (7, .int .i64 0)] [.box (Con.zh c), .box [.int .i64 n.1], .box [.fn 208 [] [.ptr 1 0]]])))) (by kernel_rfl) ?_
    simp only [Tree.holds, ze, inR, lo, hi, Int.toNat_natCast]
    have leaf : ∀ m : Int, m = Nd.subs c → LeK 0 Tryz.f121.ntmps [(1, .ptr 0 0), (4, .bool a), (5, .ptr 2 0), (7, .int .i64 m)] (HNd c) (SN3 a (Nd.subs c)) (HNd c) := fun m hm => by
     subst hm
     exact ⟨by simp [SN3], ⟨zq c, ⟨⟨rfl, rfl⟩, trivial⟩, ⟨rfl, trivial⟩, trivial⟩, by kernel_rfl, Nat.zero_le _⟩
    refine ⟨(c.p, 128), ⟨by simp, by simp, trivial, hp0, hp1, (by simp only; omega), (by simp only; omega)⟩, ⟨_, rfl⟩, ?_⟩
    rintro _ rfl
    refine ⟨fun h1 => ?_, fun h1 => ?_⟩
    all_goals
     refine ⟨(c.p, 256), ⟨by simp, by simp, trivial, hp0, hp1, (by simp only; omega), (by simp only; omega)⟩, ⟨_, rfl⟩, ?_⟩
     rintro _ rfl
     refine ⟨fun h2 => ?_, fun h2 => ?_⟩
     all_goals
      rw [if_pos trivial]
      simp only at h1 h2
      exact ⟨(), leaf _ (by unfold Nd.subs; simp [h1, h2])⟩
   ·rintro ⟨⟩
    show z3 none Tryz.prog Tryz.f121 O 0 w0 [] _ _ LN3 _
    obtain ⟨m, em⟩ : ∃ m, Nd.subs c = m := ⟨_, rfl⟩
    rw [em]
    refine zc.cutL (ι := Unit) LN3 1 0 (fun _ => SN4 a m (Nd.right c)) (fun _ => HNd c) (by kernel_rfl) (by kernel_rfl) ?_ ?_
    ·refine zc.run hmix yP [1, 4, 5, 7, 8] 400 (T := .ex (fun (x : Int × Int) => eqL [AV.int .i64 32, AV.ptr 0 0] [AV.int .i64 x.2, AV.ptr 0 0] ∧ eqH [.box [AV.int .i64 (Con.p c)]] [.box [AV.int .i64 x.1]] ∧ 1 = 1 ∧ (0 : Int) ≤ x.1 ∧ x.1 < 512 ∧ (0 : Int) ≤ x.2 ∧ x.2 < 512) fun n => .all (fun (r : Bool) => r = bitB n.1 n.2) fun n_1 => .ite ((bif n_1 then bif decide ((0 : Int) ≤ Con.date c) then decide (Con.date c ≤ 99999) else false else false) == false) (.ex (fun (x : Int × Int) => eqL [AV.int .i64 32, AV.ptr 0 0] [AV.int .i64 x.2, AV.ptr 0 0] ∧ eqH [.box [AV.int .i64 n.1]] [.box [AV.int .i64 x.1]] ∧ 1 = 1 ∧ (0 : Int) ≤ x.1 ∧ x.1 < 512 ∧ (0 : Int) ≤ x.2 ∧ x.2 < 512) fun n => .all (fun (r : Bool) => r = bitB n.1 n.2) fun n_2 => .leaf (.back 0 [(1, .ptr 0 0), (4, .bool a), (5, .ptr 2 0), (7, .int .i64 m), (8, .bool (bif bif n_1 then bif decide ((0 : Int) ≤ Con.date c) then decide (Con.date c ≤ 99999) else false else false then true else bif !n_2 then decide (Con.date c = 0) else false))] [.box (Con.zh c), .box [.int .i64 n.1], .box [.fn 208 [] [.ptr 1 0]]])) (.leaf (.back 0 [(1, .ptr 0 0), (4, .bool a), (5, .ptr 2 0), (7, .int .i64 m), (8, .bool (bif bif n_1 then bif decide ((0 : Int) ≤ Con.date c) then decide (Con.date c ≤ 99999) else false else false then true else bif !false then decide (Con.date c = 0) else false))] [.box (Con.zh c), .box [.int .i64 n.1], .box [.fn 208 [] [.ptr 1 0]]]))) (by kernel_rfl) ?_
     simp only [Tree.holds, ze, inR, lo, hi, Int.toNat_natCast]
     have leaf : ∀ b, b = Nd.right c → LeK 0 Tryz.f121.ntmps [(1, .ptr 0 0), (4, .bool a), (5, .ptr 2 0), (7, .int .i64 m), (8, .bool b)] (HNd c) (SN4 a m (Nd.right c)) (HNd c) := fun b hb => by
      subst hb
      exact ⟨by simp [SN4], ⟨zq c, ⟨⟨rfl, rfl⟩, trivial⟩, ⟨rfl, trivial⟩, trivial⟩, by kernel_rfl, Nat.zero_le _⟩
     refine ⟨(c.p, 32), ⟨by simp, by simp, trivial, hp0, hp1, (by simp only; omega), (by simp only; omega)⟩, ⟨_, rfl⟩, ?_⟩
     rintro _ rfl
     refine ⟨fun h1 => ?_, fun h1 => ?_⟩
     ·refine ⟨(c.p, 32), ⟨by simp, by simp, trivial, hp0, hp1, (by simp only; omega), (by simp only; omega)⟩, ⟨_, rfl⟩, ?_⟩
      rintro _ rfl
      rw [if_pos trivial]
      refine ⟨(), leaf _ ?_⟩
      unfold Nd.right dayB
      simp only
      cases bitB c.p 32 <;> simp [Bool.cond_eq_ite]
     ·rw [if_pos trivial]
      refine ⟨(), leaf _ ?_⟩
      unfold Nd.right dayB
      simp only at h1 ⊢
      revert h1
      cases bitB c.p 32 <;> simp [Bool.cond_eq_ite]
      exact fun h1 h2 _ => ⟨h1, h2⟩
    ·rintro ⟨⟩
     show z3 none Tryz.prog Tryz.f121 O 0 w0 [] _ _ LN4 _
     obtain ⟨b, eb⟩ : ∃ b, Nd.right c = b := ⟨_, rfl⟩
     rw [eb]
     refine zc.cutL (ι := Unit) LN4 1 0 (fun _ => SN5 a m b (Nd.list c)) (fun _ => HNd c) (by kernel_rfl) (by kernel_rfl) ?_ ?_
     ·refine zc.run hmix yP [1, 4, 7, 8, 9] 400 (T := .ex (fun (x : Int × Int) => eqL [AV.int .i64 64, AV.ptr 0 0] [AV.int .i64 x.2, AV.ptr 0 0] ∧ eqH [.box [AV.int .i64 (Con.p c)]] [.box [AV.int .i64 x.1]] ∧ 1 = 1 ∧ (0 : Int) ≤ x.1 ∧ x.1 < 512 ∧ (0 : Int) ≤ x.2 ∧ x.2 < 512) fun n => .all (fun (r : Bool) => r = bitB n.1 n.2) fun n_1 => .ex (fun (x : List Int) => n_1 = true → eqL [AV.sl (List.length (Con.days c)) 1 (Con.dayG (Con.days c))] [AV.sl x.length 1 (Con.dayG x)] ∧ x.length < 1099511627776) fun n_2 => .all (fun (x : Bool) => n_1 = true → x = wP n_2) fun n_3 => .ite ((bif n_1 then n_3 else false) == false) (.ex (fun (x : Int × Int) => eqL [AV.int .i64 64, AV.ptr 0 0] [AV.int .i64 x.2, AV.ptr 0 0] ∧ eqH [.box [AV.int .i64 n.1]] [.box [AV.int .i64 x.1]] ∧ 1 = 1 ∧ (0 : Int) ≤ x.1 ∧ x.1 < 512 ∧ (0 : Int) ≤ x.2 ∧ x.2 < 512) fun n => .all (fun (r : Bool) => r = bitB n.1 n.2) fun n_4 => .leaf (.back 0 [(1, .ptr 0 0), (4, .bool a), (7, .int .i64 m), (8, .bool b), (9, .bool (bif bif n_1 then n_3 else false then true else bif !n_4 then decide ((↑(List.length (Con.days c)) : Int) = 0) else false))] [.box (Con.zh c), .box [.int .i64 n.1], .box [.fn 208 [] [.ptr 1 0]]])) (.leaf (.back 0 [(1, .ptr 0 0), (4, .bool a), (7, .int .i64 m), (8, .bool b), (9, .bool (bif bif n_1 then n_3 else false then true else bif !false then decide ((↑(List.length (Con.days c)) : Int) = 0) else false))] [.box (Con.zh c), .box [.int .i64 n.1], .box [.fn 208 [] [.ptr 1 0]]]))) (by kernel_rfl) ?_
      simp only [Tree.holds, ze, inR, lo, hi, Int.toNat_natCast]
      have leaf : ∀ d, d = Nd.list c → LeK 0 Tryz.f121.ntmps [(1, .ptr 0 0), (4, .bool a), (7, .int .i64 m), (8, .bool b), (9, .bool d)] (HNd c) (SN5 a m b (Nd.list c)) (HNd c) := fun d hd => by
       subst hd
       exact ⟨by simp [SN5], ⟨zq c, ⟨⟨rfl, rfl⟩, trivial⟩, ⟨rfl, trivial⟩, trivial⟩, by kernel_rfl, Nat.zero_le _⟩
      refine ⟨(c.p, 64), ⟨by simp, by simp, trivial, hp0, hp1, (by simp only; omega), (by simp only; omega)⟩, ⟨_, rfl⟩, ?_⟩
      rintro _ rfl
      refine ⟨c.days, fun _ => ⟨by simp [za], by omega⟩, ⟨_, fun _ => rfl⟩, fun n hn => ?_⟩
      refine ⟨fun h1 => ?_, fun h1 => ?_⟩
      ·refine ⟨(c.p, 64), ⟨by simp, by simp, trivial, hp0, hp1, (by simp only; omega), (by simp only; omega)⟩, ⟨_, rfl⟩, ?_⟩
       rintro _ rfl
       rw [if_pos trivial]
       refine ⟨(), leaf _ ?_⟩
       unfold Nd.list
       simp only at hn ⊢
       revert hn
       cases bitB c.p 64 <;> simp [Bool.cond_eq_ite]
      ·rw [if_pos trivial]
       refine ⟨(), leaf _ ?_⟩
       unfold Nd.list
       simp only at hn h1 ⊢
       revert hn h1
       cases bitB c.p 64 <;> simp [Bool.cond_eq_ite]
       intro h2 h3
       rw [← h2, h3]
       rfl
     ·rintro ⟨⟩
      show z3 none Tryz.prog Tryz.f121 O 0 w0 [] _ _ LN5 _
      obtain ⟨d, ed⟩ : ∃ d, Nd.list c = d := ⟨_, rfl⟩
      rw [ed]
      refine zc.run hmix yP [1, 4, 7, 8, 9] 400 (T := .leaf (.ret [.bool (bif bif bif a then b else false then d else false then decide ((↑(List.length (Con.sub c)) : Int) = m) else false)] [.box (Con.zh c), .box [.int .i64 (Con.p c)], .box [.fn 208 [] [.ptr 1 0]]])) (by kernel_rfl) ?_
      simp only [Tree.holds, ze, inR, lo, hi, Int.toNat_natCast]
      have hr : c.kF = (bif bif bif a then b else false then d else false then decide ((c.sub.length : Int) = m) else false) := by
       rw [Bool.eq_iff_iff, Jt hk, ea, em, eb, ed]
       cases a <;> cases b <;> cases d <;> simp [hw]
      rw [hr] at hq
      exact RetR.scal hq rfl (by simp [resV])
end Go.Proofs.Tryz
end

/- Contracts: the reference's forms. -/
section
set_option maxRecDepth 100000
open Go Go.Sx Go.Proofs Go.Nov
namespace Go.Proofs.Tryz
attribute [local simp] eqKV eqA eqA0 eqH eqB eqL eqL0
noncomputable def K197 : List Go.Sx.Item := [.code (Tryz.f197.body.getD .skip)]
theorem xi (a b : Bool) : (bif a then b else false) = (a && b) := by cases a <;> rfl
def Z6 (n : Nat) : Ctr := ctrP true (fun c : Con => [c.conA]) (fun c => c.nodes < n ∧ c.big < 2 ^ 40) (fun c r => r = c.form) (fun _ (r : Bool) => (.bool r, []))
noncomputable def GFo : Nat → Option Ctr := fun f => if f = 114 then some (uJ) else if f = 115 then some (xt) else if f = 235 then some ((uH 1)) else if f = 236 then some ((uH 2)) else if f = 213 then some (uy) else if f = 234 then some (Yy) else none
theorem zgx : ∀ g c, GFo g = some c → zd Tryz.prog g c := okIf Wz (okIf JY (okIf zf2 (okIf Ub (okIf Qn (okIf zbm (zx))))))
noncomputable def GFoc (n : Nat) : Nat → Option Ctr := fun f => if f = 197 then some (Z6 n) else GFo f
theorem Yv {n : Nat} (h : zd Tryz.prog 197 (Z6 n)) : ∀ f c, GFoc n f = some c → zd Tryz.prog f c := by
 intro f c hf
 simp only [GFoc] at hf
 split at hf
 ·rename_i hg; subst hg; cases hf; exact h
 ·exact zgx f c hf
def SFo (i : Nat) : KV := [(1, .ptr 0 0), (3, .int .i64 (i : Int)), (74, .undef), (77, .undef), (80, .undef), (83, .undef), (86, .undef), (89, .undef), (96, .undef), (99, .undef), (100, .undef), (101, .undef), (104, .undef), (105, .undef), (106, .undef), (107, .undef), (108, .undef), (111, .undef), (114, .undef), (117, .undef), (120, .undef), (127, .undef), (130, .undef), (133, .undef), (136, .undef), (139, .undef), (142, .undef), (149, .undef), (152, .undef), (155, .undef), (158, .undef), (161, .undef), (164, .undef), (171, .undef), (174, .undef), (177, .undef), (180, .undef), (183, .undef), (186, .undef), (193, .undef), (196, .undef), (199, .undef), (202, .undef), (203, .undef), (204, .undef), (207, .undef), (210, .undef), (217, .undef), (220, .undef), (223, .undef), (226, .undef), (229, .undef), (232, .undef), (239, .undef), (242, .undef), (245, .undef), (248, .undef), (251, .undef), (254, .undef), (262, .undef), (265, .undef), (268, .undef), (271, .undef), (274, .undef), (277, .undef)]
def HFo (c : Con) : Heap := [.box c.zh]
theorem YX (n : Nat) (ih : zd Tryz.prog 197 (Z6 n)) : zd Tryz.prog 197 (Z6 (n + 1)) := by
 refine zk (fn := Tryz.f197) (c := Tryz.f197.body.getD .skip) rfl rfl rfl fun c hp O w0 Q hq => ?_
 obtain ⟨hcn, hcb⟩ := hp
 replace hq := hq _ rfl
 rw [Con.ze1] at hq
 refine zc.run hmix (Yv ih) [1, 3, 74, 77, 80, 83, 86, 89, 96, 99, 100, 101, 104, 105, 106, 107, 108, 111, 114, 117, 120, 127, 130, 133, 136, 139, 142, 149, 152, 155, 158, 161, 164, 171, 174, 177, 180, 183, 186, 193, 196, 199, 202, 203, 204, 207, 210, 217, 220, 223, 226, 229, 232, 239, 242, 245, 248, 251, 254, 262, 265, 268, 271, 274, 277] 400 (T := .leaf (.loop (Prod.fst (lps K197 0)) (Prod.snd (lps K197 0)) [(1, .ptr 0 0), (3, .int .i64 0), (74, .undef), (77, .undef), (80, .undef), (83, .undef), (86, .undef), (89, .undef), (96, .undef), (99, .undef), (100, .undef), (101, .undef), (104, .undef), (105, .undef), (106, .undef), (107, .undef), (108, .undef), (111, .undef), (114, .undef), (117, .undef), (120, .undef), (127, .undef), (130, .undef), (133, .undef), (136, .undef), (139, .undef), (142, .undef), (149, .undef), (152, .undef), (155, .undef), (158, .undef), (161, .undef), (164, .undef), (171, .undef), (174, .undef), (177, .undef), (180, .undef), (183, .undef), (186, .undef), (193, .undef), (196, .undef), (199, .undef), (202, .undef), (203, .undef), (204, .undef), (207, .undef), (210, .undef), (217, .undef), (220, .undef), (223, .undef), (226, .undef), (229, .undef), (232, .undef), (239, .undef), (242, .undef), (245, .undef), (248, .undef), (251, .undef), (254, .undef), (262, .undef), (265, .undef), (268, .undef), (271, .undef), (274, .undef), (277, .undef)] [.box (Con.zh c)])) (by kernel_rfl) ?_
 simp only [Tree.holds, ze, inR, lo, hi, Int.toNat_natCast]
 have hb := hcb
 rw [Con.w7] at hb
 rw [Con.j4] at hcn
 have hl := Con.wy c.sub
 refine zc.loop (ι := {i : Nat // i ≤ c.sub.length ∧ Con.wM (c.sub.take i) = true}) (fun i => SFo i.1) (fun _ => HFo c) (fun i => c.sub.length - i.1) ⟨0, Nat.zero_le _, by simp [Con.wM]⟩ 0 ?_ ?_ (by kernel_rfl)
 ·exact ⟨by simp [SFo], ⟨zq c, trivial⟩, by kernel_rfl, Nat.zero_le _⟩
 rintro ⟨i, hil, hf⟩
 refine zc.run hmix (Yv ih) [1, 3, 74, 77, 80, 83, 86, 89, 96, 99, 100, 101, 104, 105, 106, 107, 108, 111, 114, 117, 120, 127, 130, 133, 136, 139, 142, 149, 152, 155, 158, 161, 164, 171, 174, 177, 180, 183, 186, 193, 196, 199, 202, 203, 204, 207, 210, 217, 220, 223, 226, 229, 232, 239, 242, 245, 248, 251, 254, 262, 265, 268, 271, 274, 277] 400 (T := .ite (decide ((↑i : Int) < (↑(List.length (Con.sub c)) : Int))) (.side ((0 : Int) ≤ i ∧ (↑i : Int) < (↑(List.length (Con.sub c)) : Int)) (.ex (fun (x : Con) => eqL [(Con.conD (List.getD (Con.sub c) (Int.toNat (↑i : Int)) Con.nil))] [(Con.conA x)] ∧ Con.nodes x < n ∧ Con.big x < 1099511627776) fun n => .all (fun (r : Bool) => r = Con.form n) fun n => .ite (!n) (.leaf (.ret [.bool false] [.box (Con.zh c)])) (.side (inR .i64 ((↑i : Int) + (1 : Int))) (.leaf (.back 0 [(1, .ptr 0 0), (3, .int .i64 ((↑i : Int) + (1 : Int))), (74, .undef), (77, .undef), (80, .undef), (83, .undef), (86, .undef), (89, .undef), (96, .undef), (99, .undef), (100, .undef), (101, .undef), (104, .undef), (105, .undef), (106, .undef), (107, .undef), (108, .undef), (111, .undef), (114, .undef), (117, .undef), (120, .undef), (127, .undef), (130, .undef), (133, .undef), (136, .undef), (139, .undef), (142, .undef), (149, .undef), (152, .undef), (155, .undef), (158, .undef), (161, .undef), (164, .undef), (171, .undef), (174, .undef), (177, .undef), (180, .undef), (183, .undef), (186, .undef), (193, .undef), (196, .undef), (199, .undef), (202, .undef), (203, .undef), (204, .undef), (207, .undef), (210, .undef), (217, .undef), (220, .undef), (223, .undef), (226, .undef), (229, .undef), (232, .undef), (239, .undef), (242, .undef), (245, .undef), (248, .undef), (251, .undef), (254, .undef), (262, .undef), (265, .undef), (268, .undef), (271, .undef), (274, .undef), (277, .undef)] [.box (Con.zh c)]))))) (.ex (fun (x : List UInt8) => eqL [AV.str (Con.src c)] [AV.str x] ∧ x.length < 4611686018427387904) fun n => .all (fun (r : Bool) => r = qm n) fun n => .ex (fun (x : List UInt8) => eqL [AV.str (Con.name c)] [AV.str x] ∧ x.length < 4611686018427387904) fun n_1 => .all (fun (r : Bool) => r = qm n_1) fun n_2 => .ex (fun (x : Ex) => eqL [(Ex.exA (Con.x c))] [x.exA] ∧ True) fun n_3 => .all (fun (r : Bool) => r = qt n_3) fun n_4 => .ex (fun (x : List Int) => eqL [AV.sl (List.length (Con.days c)) 1 (Con.dayG (Con.days c))] [AV.sl x.length 1 (Con.dayG x)] ∧ x.length < 1099511627776) fun n_5 => .all (fun (r : Bool) => r = wP n_5) fun n_6 => .ex (fun (x : Ex) => eqL [(Ex.exA (Con.x c))] [x.exA] ∧ Ex.size x < 1099511627776 ∧ Ex.z8 x < 1099511627776) fun n_7 => .all (fun (r : Bool) => r = (decide (Ex.errX n_7 = 0) && decide (Ex.qn n_7 = 1))) fun n_8 => .ex (fun (x : Ex) => eqL [(Ex.exA (Con.x c))] [x.exA] ∧ Ex.size x < 1099511627776 ∧ Ex.z8 x < 1099511627776) fun n_9 => .all (fun (r : Bool) => r = (decide (Ex.errX n_9 = 0) && decide (Ex.qn n_9 = 2))) fun n_10 => .ite (decide (Con.kind c = 1)) (.leaf (.ret [.bool (bif bif bif bif bif bif decide ((↑(List.length (Con.sub c)) : Int) = 0) then decide (Con.src c = Array.toList #[]) else false then decide (Con.dst c = Array.toList #[]) else false then decide (Con.name c = Array.toList #[]) else false then decide (Con.date c = 0) else false then decide ((↑(List.length (Con.days c)) : Int) = 0) else false then n_4 else false)] [.box (Con.zh c)])) (.ite (decide (Con.kind c = 2)) (.ex (fun (x : List UInt8) => (bif decide ((↑(List.length (Con.sub c)) : Int) = 0) then n else false) = true → eqL [AV.str (Con.dst c)] [AV.str x] ∧ x.length < 4611686018427387904) fun n_11 => .all (fun (x : Bool) => (bif decide ((↑(List.length (Con.sub c)) : Int) = 0) then n else false) = true → x = qm n_11) fun n_12 => .leaf (.ret [.bool (bif bif bif bif bif bif bif decide ((↑(List.length (Con.sub c)) : Int) = 0) then n else false then n_12 else false then !decide (Con.src c = Con.dst c) else false then n_2 else false then n_8 else false then decide (Con.date c = 0) else false then decide ((↑(List.length (Con.days c)) : Int) = 0) else false)] [.box (Con.zh c)])) (.ite (decide (Con.kind c = 3)) (.leaf (.ret [.bool (bif bif bif bif bif bif decide ((↑(List.length (Con.sub c)) : Int) = 2) then decide (Con.src c = Array.toList #[]) else false then decide (Con.dst c = Array.toList #[]) else false then decide (Con.name c = Array.toList #[]) else false then decide (Con.date c = 0) else false then decide ((↑(List.length (Con.days c)) : Int) = 0) else false then n_4 else false)] [.box (Con.zh c)])) (.ite (decide (Con.kind c = 4)) (.leaf (.ret [.bool (bif bif bif bif bif bif decide ((↑(List.length (Con.sub c)) : Int) = 1) then decide (Con.src c = Array.toList #[]) else false then decide (Con.dst c = Array.toList #[]) else false then decide (Con.name c = Array.toList #[]) else false then decide (Con.date c = 0) else false then decide ((↑(List.length (Con.days c)) : Int) = 0) else false then n_8 else false)] [.box (Con.zh c)])) (.ite (decide (Con.kind c = 5)) (.leaf (.ret [.bool (bif bif bif bif bif bif decide ((↑(List.length (Con.sub c)) : Int) = 2) then decide (Con.src c = Array.toList #[]) else false then decide (Con.dst c = Array.toList #[]) else false then decide (Con.name c = Array.toList #[]) else false then decide (Con.date c = 0) else false then decide ((↑(List.length (Con.days c)) : Int) = 0) else false then n_10 else false)] [.box (Con.zh c)])) (.ite (decide (Con.kind c = 6)) (.ex (fun (x : Int) => (bif bif bif decide ((↑(List.length (Con.sub c)) : Int) = 1) then decide (Con.src c = Array.toList #[]) else false then decide (Con.dst c = Array.toList #[]) else false then decide (Con.name c = Array.toList #[]) else false) = true → eqL [AV.int .i64 (Con.date c)] [AV.int .i64 x] ∧ True) fun n => .all (fun (x : Bool) => (bif bif bif decide ((↑(List.length (Con.sub c)) : Int) = 1) then decide (Con.src c = Array.toList #[]) else false then decide (Con.dst c = Array.toList #[]) else false then decide (Con.name c = Array.toList #[]) else false) = true → x = dayB n) fun n => .leaf (.ret [.bool (bif bif bif bif bif bif decide ((↑(List.length (Con.sub c)) : Int) = 1) then decide (Con.src c = Array.toList #[]) else false then decide (Con.dst c = Array.toList #[]) else false then decide (Con.name c = Array.toList #[]) else false then n else false then decide ((↑(List.length (Con.days c)) : Int) = 0) else false then n_4 else false)] [.box (Con.zh c)])) (.ite (decide (Con.kind c = 7)) (.leaf (.ret [.bool (bif bif bif bif bif bif decide ((↑(List.length (Con.sub c)) : Int) = 2) then n else false then decide (Con.dst c = Array.toList #[]) else false then n_2 else false then decide (Con.date c = 0) else false then decide ((↑(List.length (Con.days c)) : Int) = 0) else false then n_4 else false)] [.box (Con.zh c)])) (.ite (decide (Con.kind c = 8)) (.leaf (.ret [.bool (bif bif bif bif bif bif decide ((↑(List.length (Con.sub c)) : Int) = 1) then n else false then decide (Con.dst c = Array.toList #[]) else false then n_2 else false then decide (Con.date c = 0) else false then n_6 else false then n_4 else false)] [.box (Con.zh c)])) (.ite (decide (Con.kind c = 9)) (.ite (decide (Con.kind c = 9)) (.leaf (.ret [.bool (bif bif bif bif bif bif decide ((↑(List.length (Con.sub c)) : Int) = 1) then decide (Con.src c = Array.toList #[]) else false then decide (Con.dst c = Array.toList #[]) else false then decide (Con.name c = Array.toList #[]) else false then decide (Con.date c = 0) else false then n_6 else false then n_10 else false)] [.box (Con.zh c)])) (.leaf (.ret [.bool false] [.box (Con.zh c)]))) (.ite (decide (Con.kind c = 10)) (.leaf (.ret [.bool (bif bif bif bif bif bif decide ((↑(List.length (Con.sub c)) : Int) = 1) then decide (Con.src c = Array.toList #[]) else false then decide (Con.dst c = Array.toList #[]) else false then decide (Con.name c = Array.toList #[]) else false then decide (Con.date c = 0) else false then n_6 else false then n_10 else false)] [.box (Con.zh c)])) (.leaf (.ret [.bool false] [.box (Con.zh c)]))))))))))))) (by kernel_rfl) ?_
 simp only [Tree.holds, ze, inR, lo, hi, Int.toNat_natCast]
 refine ⟨fun hlt => ?_, fun hge => ?_⟩
 ·have hlt : i < c.sub.length := by have := of_decide_eq_true hlt; omega
  have hg := Con.qV hlt
  have hgb := Con.wQ hlt
  have ht := Con.Z4 c.sub i hlt
  refine ⟨by omega, fun _ => ⟨c.sub.getD i Con.nil, ⟨⟨zD _, trivial⟩, by omega, by omega⟩, ⟨_, rfl⟩, ?_⟩⟩
  rintro _ rfl
  refine ⟨fun hb => ?_, fun hb => ⟨by omega, fun _ => ?_⟩⟩
  ·have hb : (c.sub.getD i Con.nil).form = false := by simpa using hb
   rw [Con.Jy c.sub i hlt hb, Bool.and_false] at hq
   exact RetR.scal hq rfl rfl
  ·have hb : (c.sub.getD i Con.nil).form = true := by simpa using hb
   rw [if_pos trivial]
   exact ⟨⟨i + 1, hlt, by rw [ht, hf, hb]; rfl⟩, by show c.sub.length - (i + 1) < c.sub.length - i; omega, by simp [SFo], ⟨zq c, trivial⟩, by kernel_rfl, Nat.zero_le _⟩
 have hge : i = c.sub.length := by have := of_decide_eq_false hge; omega
 subst hge
 rw [List.take_length] at hf
 rw [hf, Bool.and_true] at hq
 have fin : ∀ (E : Bool) (h : Heap), (E = true ↔ vG c.kind c.src c.dst c.name c.x c.date c.days c.sub.length = true) → RetR (Z6 (n + 1)) 0 Q [.bool E] h := fun E h he => by
  rw [← Bool.eq_iff_iff] at he
  rw [← he] at hq
  exact RetR.scal hq rfl rfl
 have e0 : ((c.sub.length : Int) = 0) ↔ c.sub.length = 0 := by omega
 have e1 : ((c.sub.length : Int) = 1) ↔ c.sub.length = 1 := by omega
 have e2 : ((c.sub.length : Int) = 2) ↔ c.sub.length = 2 := by omega
 have ed : ((c.days.length : Int) = 0) ↔ c.days = [] := by rw [← List.length_eq_zero_iff]; omega
 refine ⟨c.src, ⟨⟨rfl, trivial⟩, by omega⟩, ⟨_, rfl⟩, ?_⟩
 rintro _ rfl
 refine ⟨c.name, ⟨⟨rfl, trivial⟩, by omega⟩, ⟨_, rfl⟩, ?_⟩
 rintro _ rfl
 refine ⟨c.x, ⟨⟨zK c.x, trivial⟩, trivial⟩, ⟨_, rfl⟩, ?_⟩
 rintro _ rfl
 refine ⟨c.days, ⟨⟨⟨rfl, rfl, za _ _ _⟩, trivial⟩, by omega⟩, ⟨_, rfl⟩, ?_⟩
 rintro _ rfl
 refine ⟨c.x, ⟨⟨zK c.x, trivial⟩, by omega, by omega⟩, ⟨_, rfl⟩, ?_⟩
 rintro _ rfl
 refine ⟨c.x, ⟨⟨zK c.x, trivial⟩, by omega, by omega⟩, ⟨_, rfl⟩, ?_⟩
 rintro _ rfl
 refine ⟨fun hk => fin _ _ ?_, fun _ => ⟨fun hk => ⟨c.dst, fun _ => ⟨⟨rfl, trivial⟩, by omega⟩, ⟨_, fun _ => rfl⟩, fun b hb => fin _ _ ?_⟩, fun _ => ⟨fun hk => fin _ _ ?_, fun _ => ⟨fun hk => fin _ _ ?_, fun _ => ⟨fun hk => fin _ _ ?_, fun _ => ⟨fun hk => ⟨c.date, fun _ => ⟨⟨⟨rfl, rfl⟩, trivial⟩, trivial⟩, ⟨_, fun _ => rfl⟩, fun b hb => fin _ _ ?_⟩, fun _ => ⟨fun hk => fin _ _ ?_, fun _ => ⟨fun hk => fin _ _ ?_, fun _ => ⟨fun hk => ?_, fun hk => ?_⟩⟩⟩⟩⟩⟩⟩⟩⟩
 rotate_right 2
 ·refine ⟨fun _ => fin _ _ ?_, fun h => by rw [h] at hk; cases hk⟩
  have hk := of_decide_eq_true hk
  clear hq fin
  unfold vG numX truX
  simp only [hk]
  simp only [xi]
  simp [e0, e1, e2, ed, and_assoc]
 ·refine ⟨fun hk => fin _ _ ?_, fun h10 => ?_⟩
  ·have hk := of_decide_eq_true hk
   clear hq fin
   unfold vG numX truX
   simp only [hk]
   simp only [xi]
   simp [e0, e1, e2, ed, and_assoc]
  ·have q : ∀ z : Int, decide (c.kind = z) = false → c.kind ≠ z := fun z h => of_decide_eq_false h
   have hn : vG c.kind c.src c.dst c.name c.x c.date c.days c.sub.length = false := by
    unfold vG
    rw [if_neg (q _ ‹_›), if_neg (q _ ‹_›), if_neg (q _ ‹_›), if_neg (q _ ‹_›), if_neg (q _ ‹_›), if_neg (q _ ‹_›), if_neg (q _ ‹_›), if_neg (q _ ‹_›), if_neg (fun h => h.elim (q _ hk) (q _ h10))]
   rw [hn] at hq
   exact RetR.scal hq rfl rfl
 all_goals first
  | (have hk := of_decide_eq_true hk
     have hk2 : ((c.kind = 2 ∨ c.kind = 6) → True) := fun _ => trivial
     clear hq fin
     unfold vG numX truX
     simp only [hk]
     try (simp only [xi, Bool.and_eq_true, decide_eq_true_eq] at hb)
     simp only [xi]
     simp [e0, e1, e2, ed, and_assoc]
     done)
  | (have hk := of_decide_eq_true hk
     clear hq fin
     unfold vG numX truX
     simp only [hk]
     simp only [xi] at hb ⊢
     by_cases h1 : c.sub.length = 0
     ·by_cases h2 : qm c.src = true
      ·rw [hb (by simp [e0, h1, h2])]
       simp [e0, e1, e2, ed, and_assoc]
      ·simp [h2]
     ·simp [e0, h1]
     done)
  | (have hk := of_decide_eq_true hk
     clear hq fin
     unfold vG numX truX
     simp only [hk]
     simp only [xi] at hb ⊢
     by_cases h1 : c.sub.length = 1
     ·by_cases h2 : c.src = []
      ·by_cases h3 : c.dst = []
       ·by_cases h4 : c.name = []
        ·rw [hb (by simp [e1, h1, h2, h3, h4])]
         simp [e0, e1, e2, ed, and_assoc]
        ·simp [h4]
       ·simp [h3]
      ·simp [h2]
     ·simp [e1, h1]
     done)
def V7 : Ctr := ctrP true (fun c : Con => [c.conA]) (fun c => c.big < 2 ^ 40) (fun c r => r = c.form) (fun _ (r : Bool) => (.bool r, []))
theorem zbz : zd Tryz.prog 197 V7 := zO Con.nodes YX
end Go.Proofs.Tryz
end

/- Loops over functions whose rounds keep a property of what has gone by. -/
section
namespace Go.Sx
variable [Stat]
section
variable {O : Nat → Prop} {pin : Nat} {w0 : World} {σ0 : List SE} {P : Program} {fn : Func}
def noH (n : Nat) : Heap := .box [.ptr n 0] :: List.replicate (n - 1) (.box [])
theorem Yi {n : Nat} (h : 1 ≤ n) : (noH n).length = n := by simp [noH]; omega
theorem YO (n : Nat) : ∀ b ∈ noH n, alive b := by
 intro b hb
 unfold noH at hb
 rcases List.mem_cons.1 hb with rfl | hb
 ·trivial
 ·rw [List.eq_of_mem_replicate hb]; trivial
theorem zc.never {M : Option Nat} {Hs : Nat → KV → Heap → Prop} {R : List AV → Heap → Prop} {k : List Item} {kv : KV} {n : Nat} (hn : 1 ≤ n) : z3 M P fn O pin w0 σ0 Hs R k (mk fn.ntmps kv (noH n)) := by
 intro w σ a hm
 have hl : σ.length = n := by rw [hm.hp.len]; exact Yi hn
 have h0 : σ[0]? = some (σ[0]'(by omega)) := List.getElem?_eq_getElem _
 have hb := hm.hp.blk 0 _ (.box [.ptr n 0]) h0 rfl
 simp only [BRep] at hb
 obtain ⟨ad, vs, el, _, _, _, q⟩ := hb
 simp only [RepL, Rep] at q
 obtain ⟨v, r, _, ⟨e, ad', he, _⟩, _⟩ := q
 have := (List.getElem?_eq_some_iff.1 he).1
 omega
open Classical in
theorem zc.zg8 {α : Type} {Hs : Nat → KV → Heap → Prop} {R : List AV → Heap → Prop} {k : List Item} {c : Code} {kv : KV} {h : Heap} {tg tp td t n gf : Nat} {cap : List AV} {zs : List AV} (I : List α → Prop) (hc : JK c tg tp td t = true) (hz : zeroCells P t = some zs) (hn : zN P t = some n) (hzl : zs.length = n)
  (he : ∀ args w, (callFunc gf args).run P w = .ok (.enter gf args) w) (av : α → AV) (cs : α → List AV) (hcs : ∀ x, cellsOf (av x) = some (cs x) ∧ (cs x).length = n ∧ (cs x).all oneA = true ∧ (cs x).all WM = true) (H Hx : List α → Heap) (X S Sp : List α → Prop) (N pinR : Nat)
  (hg : look kv tg = .fn gf [] cap) (htg : tg < fn.ntmps) (htp : tp < fn.ntmps) (htd : td < fn.ntmps) (hne : td ≠ tp) (hle : LeK pin fn.ntmps kv h kv (H [])) (hlow : (pk fn.ntmps kv).all (lowB pinR) = true) (hpin : pin ≤ pinR) (hpos : 1 ≤ pinR) (hI : I []) (hlen : ∀ pre, (H pre).length = pinR)
  (halive : ∀ pre, ∀ b ∈ H pre, alive b) (halivex : ∀ pre, ∀ b ∈ Hx pre, alive b)
  (iter : ∀ w σ a, Mod O pin w0 σ0 w σ (mk fn.ntmps kv (H [])) a → ∀ vb, RepL (Own O σ) w cap σ vb → ∃ ev : α → Value, SeqStopsK Fence.wide 0 P gf vb.toArray (fun x => #[ev x]) (qJ (Own O σ)) S Sp N w ∧ ∀ x, Rep (Own O σ) w (av x) [] (ev x))
  (round : ∀ l pre x, I pre → pre.length < N → ∀ (W : World) (σ1 : List SE), z3 (some l) P (bare fn) O pinR W σ1 (fun d kv' h' => I (pre ++ [x]) ∧ LeK pinR fn.ntmps [] h' [] (H (pre ++ [x]))) (fun _ h' => X (pre ++ [x]) ∧ LeK pinR fn.ntmps [] h' [] (Hx (pre ++ [x]))) [.code (kD c), .inLoop] (mk fn.ntmps ((td, .iptr n fun o => (cs x).getD o .undef) :: (tp, av x) :: kv) (H pre)))
  (done : ∀ xs, S xs → I xs → zc P fn O pin w0 σ0 Hs R k (mk fn.ntmps kv (H xs)))
  (stop : ∀ pre, Sp pre → X pre → (resX P (mk fn.ntmps kv (Hx pre)) fn.results.toList).holds fun rs => R rs (Hx pre)) :
  zc P fn O pin w0 σ0 Hs R (.code c :: k) (mk fn.ntmps kv h) := by
 refine zc.UR hc hz hn hzl he av cs hcs (fun pre => if I pre then H pre else noH pinR) Hx X S Sp N pinR hg htg htp htd hne (by rw [if_pos hI]; exact hle) hlow hpin (fun pre => ?_) (fun pre => ?_) halivex ?_ ?_ ?_ stop
 ·split
  ·exact hlen pre
  ·exact Yi hpos
 ·split
  ·exact halive pre
  ·exact YO _
 ·rw [if_pos hI]; exact iter
 ·intro l pre x hl W σ1
  by_cases h1 : I pre
  ·simp only [if_pos h1]
   intro w σ a hm
   refine Z8 ?_ (round l pre x h1 hl W σ1 w σ a hm)
   rintro d a' w' ⟨st, σ', ⟨kv', h', ⟨h2, h3⟩, rfl⟩, hm'⟩
   exact ⟨_, σ', ⟨kv', h', by rw [if_pos h2]; exact h3, rfl⟩, hm'⟩
  ·simp only [if_neg h1]
   exact zc.never (fn := bare fn) hpos
 ·intro xs hs
  by_cases h1 : I xs
  ·simp only [if_pos h1]; exact done xs hs h1
  ·simp only [if_neg h1]; exact zc.never hpos
end
end Go.Sx
end

/- Contracts: Check. -/
section
set_option maxRecDepth 100000
open Go Go.Sx Go.Proofs Go.Nov
namespace Go.Proofs.Tryz
attribute [local simp] eqKV eqA eqA0 eqH eqB eqL eqL0
noncomputable def K36 : List Go.Sx.Item := [.code (Tryz.f36.body.getD .skip)]
def xq : Ctr := ctrP true (fun c : Con => [c.conA]) (fun c => c.big < 2 ^ 40 ∧ c.nodes ≤ 1000000) (fun c r => r = c.errC) (fun _ (r : Int) => (.int .i64 r, []))
noncomputable def GCk0 : Nat → Option Ctr := fun f => if f = 131 then some (Jk) else if f = 196 then some (xr) else if f = 197 then some (V7) else none
theorem ze4 : ∀ g c, GCk0 g = some c → zd Tryz.prog g c := okIf YC (okIf KF (okIf zbz (zx)))
theorem KC : zd Tryz.prog 110 xq := by
 refine zk (fn := Tryz.f110) (c := Tryz.f110.body.getD .skip) rfl rfl rfl fun c hc O w0 Q hq => ?_
 obtain ⟨h1, h2⟩ := hc
 replace hq := hq _ rfl
 refine zc.run hmix ze4 [] 400 (T := .ex (fun (x : Con) => eqL [(Con.conA c)] [(Con.conA x)] ∧ Con.big x < 1099511627776) fun n => .all (fun (r : Nat) => r = Con.size n) fun n => .ex (fun (x : Con) => decide ((500 : Int) < n) = false → eqL [(Con.conA c)] [(Con.conA x)] ∧ Con.big x < 1099511627776) fun n_1 => .all (fun (x : Nat) => decide ((500 : Int) < n) = false → x = Con.depth n_1) fun n_2 => .ite (bif decide ((500 : Int) < n) then true else decide ((60 : Int) < n_2)) (.leaf (.ret [.int .i64 4] [.box (Con.zh c)])) (.ex (fun (x : Con) => eqL [(Con.conA c)] [(Con.conA x)] ∧ Con.big x < 1099511627776) fun n => .all (fun (r : Bool) => r = Con.form n) fun n => .ite (!n) (.leaf (.ret [.int .i64 8] [.box (Con.zh c)])) (.leaf (.ret [.int .i64 0] [.box (Con.zh c)])))) (by kernel_rfl) ?_
 simp only [Tree.holds, ze]
 have hq1 : (500 < c.size ∨ 60 < c.depth) → Q (.int .i64 4, []) := fun h => by unfold Con.errC at hq; rw [if_pos h] at hq; exact hq
 have hq2 : ¬ (500 < c.size ∨ 60 < c.depth) → Q (.int .i64 (if c.form = true then 0 else 8), []) := fun h => by unfold Con.errC at hq; rw [if_neg h] at hq; exact hq
 refine ⟨c, ⟨⟨wz c, trivial⟩, h1⟩, ⟨_, rfl⟩, ?_⟩
 rintro _ rfl
 refine ⟨c, fun _ => ⟨⟨wz c, trivial⟩, h1⟩, ⟨_, fun _ => rfl⟩, fun n hn => ?_⟩
 have key : (bif decide (500 < (c.size : Int)) then true else decide (60 < (n : Int))) = decide (500 < c.size ∨ 60 < c.depth) := by
  by_cases g : 500 < c.size
  ·simp [g]; omega
  ·rw [hn (decide_eq_false (by omega)), Bool.eq_iff_iff]; simp [g]; omega
 rw [key]
 refine ⟨fun h => RetR.scal (hq1 (of_decide_eq_true h)) rfl (by simp [resV]), fun h => ⟨c, ⟨⟨wz c, trivial⟩, h1⟩, ⟨_, rfl⟩, ?_⟩⟩
 rintro _ rfl
 have hq2 := hq2 (of_decide_eq_false h)
 refine ⟨fun h => ?_, fun h => ?_⟩
 ·rw [if_neg (by simpa using h)] at hq2; exact RetR.scal hq2 rfl (by simp [resV])
 ·rw [if_pos (by simpa using h)] at hq2; exact RetR.scal hq2 rfl (by simp [resV])
noncomputable def GCkk : Nat → Option Ctr := fun f => if f = 118 then some (zbn) else if f = 119 then some (xr) else if f = 120 then some (Xb) else if f = 121 then some (za9) else none
theorem JX : ∀ g c, GCkk g = some c → zd Tryz.prog g c := okIf zcg (okIf YR (okIf W6 (okIf zdy (zx))))
def HCk (c : Con) (m : Int) : Heap := [.box c.zh, .box [.int .i64 m], .box c.zh]
theorem QY : zd Tryz.prog 36 xq := by
 refine zk (fn := Tryz.f36) (c := Tryz.f36.body.getD .skip) rfl rfl rfl fun c hc O w0 Q hq => ?_
 obtain ⟨h1, h2⟩ := hc
 replace hq := hq _ rfl
 refine zc.run hmix JX [2, 13, 14] 400 (T := .ex (fun (x : Con) => eqL [(Con.conA c)] [(Con.conA x)] ∧ Con.big x < 1099511627776 ∧ Con.nodes x ≤ 1000000) fun n => .all (fun (r : Nat) => r = Con.size n) fun n => .ex (fun (x : Con) => decide ((500 : Int) < n) = false → eqL [(Con.conA c)] [(Con.conA x)] ∧ Con.big x < 1099511627776) fun n_1 => .all (fun (x : Nat) => decide ((500 : Int) < n) = false → x = Con.depth n_1) fun n_2 => .ite (bif decide ((500 : Int) < n) then true else decide ((60 : Int) < n_2)) (.leaf (.ret [.int .i64 4] [.box (Con.zh c), .box [.int .i64 4]])) (.ex (fun (x : Con) => eqL [(Con.conA c)] [(Con.conA x)] ∧ eqH [] [] ∧ 0 = 0 ∧ True) fun n => .all (fun (x : Unit) => True) fun n_3 => .leaf (.range (Prod.fst (rfs K36 0)) (Prod.snd (rfs K36 0)) [(2, .ptr 1 0), (13, .fn 206 [] [.ptr 2 0]), (14, .undef)] [.box (Con.zh c), .box [.int .i64 0], .box (Con.zh n)]))) (by kernel_rfl) ?_
 simp only [Tree.holds, ze]
 have hq1 : (500 < c.size ∨ 60 < c.depth) → Q (.int .i64 4, []) := fun h => by unfold Con.errC at hq; rw [if_pos h] at hq; exact hq
 have hq2 : ¬ (500 < c.size ∨ 60 < c.depth) → Q (.int .i64 (if c.form = true then 0 else 8), []) := fun h => by unfold Con.errC at hq; rw [if_neg h] at hq; exact hq
 refine ⟨c, ⟨⟨wz c, trivial⟩, h1, h2⟩, ⟨_, rfl⟩, ?_⟩
 rintro _ rfl
 refine ⟨c, fun _ => ⟨⟨wz c, trivial⟩, h1⟩, ⟨_, fun _ => rfl⟩, fun n hn => ?_⟩
 have key : (bif decide (500 < (c.size : Int)) then true else decide (60 < (n : Int))) = decide (500 < c.size ∨ 60 < c.depth) := by
  by_cases g : 500 < c.size
  ·simp [g]; omega
  ·rw [hn (decide_eq_false (by omega)), Bool.eq_iff_iff]; simp [g]; omega
 rw [key]
 refine ⟨fun h => RetR.scal (hq1 (of_decide_eq_true h)) rfl (by simp [resV]), fun h => ⟨c, ⟨⟨wz c, trivial⟩, trivial, trivial, trivial⟩, ⟨(), trivial⟩, fun _ _ => ?_⟩⟩
 have hq2 := hq2 (of_decide_eq_false h)
 clear hq hq1
 refine zc.zg8 (fun pre : List Nat => ∀ i ∈ pre, (c.all.getD i c).kF = true) (tg := 13) (tp := 14) (td := 3) (t := 53) (n := 12) (zs := [.int .u8 0, .str [], .str [], .str [], .int .u8 0, .str [], .str [], .int .i64 0, .nils, .int .i64 0, .nils, .nils]) (cap := [.ptr 2 0]) (gf := 206) (by kernel_rfl) (by kernel_rfl) (by kernel_rfl) rfl (enters_of Tryz.func206 (by kernel_rfl) rfl) (fun i : Nat => (c.all.getD i c).conA) (fun i => (c.all.getD i c).zh) (fun i => ⟨rfl, rfl, rfl, rfl⟩) (fun _ => HCk c 0) (fun _ => HCk c 8) (fun pre => ¬ c.form = true) (fun xs => xs = List.range c.all.length) (fun pre => pre <+: List.range c.all.length) c.all.length 3
  (by kernel_rfl) (by decide +kernel) (by decide +kernel) (by decide +kernel) (by decide) ⟨by simp, ⟨zq c, ⟨⟨rfl, rfl⟩, trivial⟩, zq c, trivial⟩, by kernel_rfl, Nat.zero_le _⟩ (by kernel_rfl) (Nat.zero_le _) (by decide) (fun i hi => by cases hi) (fun pre => rfl) (fun pre => by simp [HCk, alive]) (fun pre b hb => by simp [HCk] at hb; rcases hb with rfl | rfl | rfl <;> trivial) ?_ ?_ ?_ ?_
 ·intro w σ a hm vb hvb
  exact Qf hm (i := 2) rfl h2 hvb
 ·intro l pre i hI hlen W σ1
  have hwt : (c.all.getD i c).big ≤ c.big ∧ (c.all.getD i c) ∈ c.all := by
   by_cases hi : i < c.all.length
   ·have : (c.all.getD i c) ∈ c.all := by simp [List.getD, hi]
    exact ⟨Con.uX c _ this, this⟩
   ·have : c.all.getD i c = c := by simp [List.getD, hi]
    rw [this]
    exact ⟨Nat.le_refl _, by rw [Con.all_eq]; simp⟩
  obtain ⟨e, he⟩ : ∃ e, c.all.getD i c = e := ⟨_, rfl⟩
  rw [he] at hwt ⊢
  refine zc.run hmix JX [2, 13, 14] 400 (T := .ex (fun (x : Con) => eqL [(Con.conA e)] [(Con.conA x)] ∧ Con.big x < 1099511627776) fun n => .all (fun (r : Bool) => r = Con.kF n) fun n => .ite (!n) (.leaf (.ret [] [.box (Con.zh c), .box [.int .i64 8], .box (Con.zh c)])) (.leaf (.back 0 [(2, .ptr 1 0), (13, .fn 206 [] [.ptr 2 0]), (14, (Con.conA e))] [.box (Con.zh c), .box [.int .i64 0], .box (Con.zh c)]))) (by kernel_rfl) ?_
  simp only [Tree.holds, ze, inR, lo, hi, Int.toNat_natCast]
  refine ⟨e, ⟨⟨wz e, trivial⟩, by omega⟩, ⟨_, rfl⟩, ?_⟩
  rintro _ rfl
  refine ⟨fun h => ⟨fun hf => ?_, ?_⟩, fun h => ⟨fun j hj => ?_, ?_⟩⟩
  ·rw [Con.Qs, List.all_eq_true] at hf
   have := hf e hwt.2
   simp [this] at h
  ·exact ⟨trivial, ⟨zq c, ⟨⟨rfl, rfl⟩, trivial⟩, zq c, trivial⟩, by kernel_rfl, Nat.le_refl _⟩
  ·rcases List.mem_append.1 hj with hj | hj
   ·exact hI j hj
   ·rw [List.mem_singleton.1 hj, he]; simpa using h
  ·exact ⟨trivial, ⟨zq c, ⟨⟨rfl, rfl⟩, trivial⟩, zq c, trivial⟩, by kernel_rfl, Nat.le_refl _⟩
 ·intro xs hxs hI
  have hform : c.form = true := by
   rw [Con.Qs, List.all_eq_true]
   intro e hem
   obtain ⟨j, hj, rfl⟩ := List.getElem_of_mem hem
   have := hI j (by rw [hxs]; simpa using hj)
   simpa [List.getD, hj] using this
  rw [if_pos hform] at hq2
  refine zc.run hmix JX [2, 13, 14] 400 (T := .leaf (.ret [.int .i64 0] [.box (Con.zh c), .box [.int .i64 0], .box (Con.zh c)])) (by kernel_rfl) ?_
  simp only [Tree.holds, ze]
  exact RetR.scal hq2 rfl (by simp [resV])
 ·intro pre hpre hX
  rw [if_neg hX] at hq2
  exact (RetR.scal hq2 rfl (by simp [resV]) : RetR xq 0 Q [.int .i64 8] (HCk c 8))
end Go.Proofs.Tryz
end

/- Lists of what is known, as slices: pushed, set, put in between. -/
section
namespace Go.Nov
open Go.Sx
theorem yd (n sz : Nat) (g g' : Nat → Nat → AV) : eqG (0 + n) sz (appG 0 g g') g' := by
 intro j o _ _
 simp [appG]
end Go.Nov
end

/- Contracts: copies. -/
section
set_option maxRecDepth 100000
open Go Go.Sx Go.Proofs Go.Nov
namespace Go.Proofs.Tryz
attribute [local simp] eqKV eqA eqA0 eqH eqB eqL eqL0
noncomputable def K134 : List Go.Sx.Item := [.code (Tryz.f134.body.getD .skip)]
noncomputable def K27 : List Go.Sx.Item := [.code (Tryz.f27.body.getD .skip)]
theorem Y7 (n sz : Nat) (g g' : Nat → Nat → AV) : eqG (0 + n) sz (appG 0 g g') g' := yd n sz g g'
def Yh : Ctr := ctrP false (fun l : List Int => [Con.dayS l]) (fun l => l.length < 2 ^ 40) (fun _ (_ : Unit) => True) (fun l _ => (.osl 0 1 0 l.length, [.arr l.length 1 (Con.dayG l)]))
theorem U3 : zd Tryz.prog 108 Yh := by
 refine za7 (fn := Tryz.f108) (c := Tryz.f108.body.getD .skip) rfl rfl rfl fun l hl O w0 Q hq => ?_
 replace hq := hq () trivial
 refine zc.run hmix zy [] 400 (T := .all (fun (b : Bool) => 0 < l.length → b = false) fun n => .ite n (.leaf (.ret [.nils] [])) (.side (0 = 0 ∧ 0 ≤ 0 ∧ (0 + l.length) * 8 ≤ 140737488355328) (.leaf (.ret [.osl 0 1 0 (0 + l.length)] [.arr (0 + l.length) 1 (appG 0 (zj 1 []) (Con.dayG l))])))) (by kernel_rfl) ?_
 simp only [Tree.holds, ze]
 refine ⟨⟨false, fun _ => rfl⟩, fun b hb => ⟨fun h => ?_, fun h => ⟨⟨trivial, Nat.le_refl _, by omega⟩, fun _ => ?_⟩⟩⟩
 ·have h0 : l = [] := by
   rcases Nat.eq_zero_or_pos l.length with h0 | h0
   ·exact List.length_eq_zero_iff.1 h0
   ·rw [hb h0] at h; cases h
  subst h0
  refine RetR.scal (.inr ⟨.osl 0 1 0 0, [(1, Con.dayG [])], by simp [upA2, upA1, upA0], ?_⟩) (r := .nils) rfl (by simp [resV])
  exact hq
 ·refine RetR.outs [0] rfl rfl (.inl hq) (fun h => by cases h) ?_ ?_ rfl
  ·simp [resV, exp2, exp1, exp0, zA, eqA2, eqL1]
  ·exact ⟨⟨by omega, rfl, Y7 _ _ _ _⟩, trivial⟩
def wO (n : Nat) : Ctr := ctrP false (fun c : Con => [c.conA]) (fun c => c.nodes < n ∧ c.big < 2 ^ 38) (fun _ (_ : Unit) => True) (fun c _ => (c.conD, []))
noncomputable def GTw0 : Nat → Option Ctr := fun f => if f = 214 then some (Zl) else if f = 108 then some (Yh) else none
theorem zeb : ∀ g c, GTw0 g = some c → zd Tryz.prog g c := okIf zbg (okIf U3 (zx))
noncomputable def GTwc (n : Nat) : Nat → Option Ctr := fun f => if f = 134 then some (wO n) else GTw0 f
theorem Yf {n : Nat} (ih : zd Tryz.prog 134 (wO n)) : ∀ g c, GTwc n g = some c → zd Tryz.prog g c := fun g c h => by
 unfold GTwc at h
 split at h
 ·rename_i e; cases h; subst e; exact ih
 ·exact zeb g c h
def STc (c : Con) (i : Nat) : KV := [(1, .ptr 0 0), (2, .ptr 1 0), (3, .osl 3 12 0 i), (15, Con.conS c.sub), (16, .int .i64 (c.sub.length : Int)), (17, .int .i64 (i : Int))]
def BTc (c : Con) (s : AV) : Blk := .box [.int .u8 c.kind, .str c.src, .str c.dst, .str c.name, .int .u8 c.x.kind, .str c.x.rat, .str c.x.name, .int .i64 c.x.date, .sl c.x.sub.length 5 c.x.deep, .int .i64 c.date, .osl 2 1 0 c.days.length, s]
def BTz : Blk := .box [.int .u8 0, .str [], .str [], .str [], .int .u8 0, .str [], .str [], .int .i64 0, .nils, .int .i64 0, .nils, .nils]
def RTc (c : Con) : List AV := [c.outD (.sl c.x.sub.length 5 c.x.deep) (.osl 2 1 0 c.days.length) (.osl 3 12 0 c.sub.length)]
def HTc (c : Con) (i : Nat) : Heap := [BTc c (Con.conS c.sub), BTz, .arr c.days.length 1 (Con.dayG c.days), .arr i 12 (Con.conG c.sub)]
theorem QF {s : List Con} {i : Nat} : eqG (i + 1) 12 (appG i (Con.conG s) (zi (zj 12 [.int .u8 (s.getD i Con.nil).kind, .str (s.getD i Con.nil).src, .str (s.getD i Con.nil).dst, .str (s.getD i Con.nil).name, .int .u8 (s.getD i Con.nil).x.kind, .str (s.getD i Con.nil).x.rat, .str (s.getD i Con.nil).x.name, .int .i64 (s.getD i Con.nil).x.date, .sl (s.getD i Con.nil).x.sub.length 5 (Ex.exG (s.getD i Con.nil).x.sub), .int .i64 (s.getD i Con.nil).date, .sl (s.getD i Con.nil).days.length 1 (Con.dayG (s.getD i Con.nil).days), .sl (s.getD i Con.nil).sub.length 12 (s.getD i Con.nil).deep]) 0)) (Con.conG s) := by
 intro j o hj ho
 simp only [appG, zi, zj]
 by_cases h : j < i
 ·rw [if_pos h]
 ·have : j = i := by omega
  subst this
  rw [if_neg h]
  have e : j - j = 0 := by omega
  match o, ho with
  | 0, _ => simp [e, Con.conG, Con.cell]
  | 1, _ => simp [e, Con.conG, Con.cell]
  | 2, _ => simp [e, Con.conG, Con.cell]
  | 3, _ => simp [e, Con.conG, Con.cell]
  | 4, _ => simp [e, Con.conG, Con.cell]
  | 5, _ => simp [e, Con.conG, Con.cell]
  | 6, _ => simp [e, Con.conG, Con.cell]
  | 7, _ => simp [e, Con.conG, Con.cell]
  | 8, _ => simp [e, Con.conG, Con.cell]
  | 9, _ => simp [e, Con.conG, Con.cell]
  | 10, _ => simp [e, Con.conG, Con.cell]
  | 11, _ => simp [e, Con.conG, Con.cell]
theorem Ym (n : Nat) (ih : zd Tryz.prog 134 (wO n)) {O : Nat → Prop} {w0 : World} {C : Ctr} {Q : AV × Heap → Prop} (c : Con) (h1 : c.nodes < n + 1) (h2 : c.big < 2 ^ 38) (hR : ∀ h : Heap, h[2]? = some (.arr c.days.length 1 (Con.dayG c.days)) → h[3]? = some (.arr c.sub.length 12 (Con.conG c.sub)) → RetR C 0 Q (RTc c) h) :
  zc Tryz.prog Tryz.f134 O 0 w0 [] (fun _ _ _ => False) (RetR C 0 Q) K134 (entry Tryz.f134 [c.conA]) := by
 refine zc.run hmix (Yf ih) [1, 2, 3, 15, 16, 17] 400 (T := .ex (fun (x : Ex) => eqL [(Ex.exA (Con.x c))] [x.exA] ∧ Ex.size x < 1099511627776) fun n => .all (fun (x : Unit) => True) fun n_1 => .ex (fun (x : List Int) => eqL [AV.sl (List.length (Con.days c)) 1 (Con.dayG (Con.days c))] [AV.sl x.length 1 (Con.dayG x)] ∧ x.length < 1099511627776) fun n_2 => .all (fun (x : Unit) => True) fun n_3 => .leaf (.loop (Prod.fst (lps K134 0)) (Prod.snd (lps K134 0)) [(1, .ptr 0 0), (2, .ptr 1 0), (3, .nils), (15, .sl (List.length (Con.sub c)) 12 (Con.conG (Con.sub c))), (16, .int .i64 (↑(List.length (Con.sub c)) : Int)), (17, .int .i64 0)] [.box [.int .u8 (Con.kind c), .str (Con.src c), .str (Con.dst c), .str (Con.name c), .int .u8 n.kind, .str n.rat, .str n.name, .int .i64 n.date, .sl n.sub.length 5 n.deep, .int .i64 (Con.date c), .osl 2 1 0 n_2.length, .sl (List.length (Con.sub c)) 12 (Con.conG (Con.sub c))], .box [.int .u8 0, .str (Array.toList #[]), .str (Array.toList #[]), .str (Array.toList #[]), .int .u8 0, .str (Array.toList #[]), .str (Array.toList #[]), .int .i64 0, .nils, .int .i64 0, .nils, .nils], .arr n_2.length 1 (Con.dayG n_2)])) (by kernel_rfl) ?_
 simp only [Tree.holds, ze, inR, lo, hi, Int.toNat_natCast]
 have hb := h2
 rw [Con.w7] at hb
 refine ⟨c.x, ⟨⟨zK c.x, trivial⟩, by show c.x.size < _; omega⟩, ⟨(), trivial⟩, fun _ _ => ⟨c.days, ⟨by simp [za], by omega⟩, ⟨(), trivial⟩, fun _ _ => ?_⟩⟩
 refine zc.bear 3 12 (Con.conG c.sub) rfl (by decide) (by kernel_rfl) ?_
 refine zc.loop (ι := {i : Nat // i ≤ c.sub.length}) (fun i => STc c i.1) (fun i => HTc c i.1) (fun i => c.sub.length - i.1) ⟨0, Nat.zero_le _⟩ 0 ?_ ?_ (by kernel_rfl)
 ·refine ⟨by simp [STc, kx, Con.conS, za], ?_, by kernel_rfl, Nat.zero_le _⟩
  simp [HTc, BTc, BTz, Con.conS, za]
 ·rintro ⟨i, hil⟩
  refine zc.run hmix (Yf ih) [1, 2, 3, 15, 16, 17] 400 (T := .ite (decide ((↑i : Int) < (↑(List.length (Con.sub c)) : Int))) (.side ((0 : Int) ≤ i ∧ (↑i : Int) < (↑(List.length (Con.sub c)) : Int)) (.ex (fun (x : Con) => eqL [(Con.conD (List.getD (Con.sub c) (Int.toNat (↑i : Int)) Con.nil))] [(Con.conA x)] ∧ Con.nodes x < n ∧ Con.big x < 274877906944) fun n => .all (fun (x : Unit) => True) fun n_1 => .side (0 = 0 ∧ i ≤ i ∧ (i + 1) * 184 ≤ 140737488355328) (.side (inR .i64 ((↑i : Int) + (1 : Int))) (.leaf (.back 0 [(1, .ptr 0 0), (2, .ptr 1 0), (3, .osl 3 12 0 (i + 1)), (15, .sl (List.length (Con.sub c)) 12 (Con.conG (Con.sub c))), (16, .int .i64 (↑(List.length (Con.sub c)) : Int)), (17, .int .i64 ((↑i : Int) + (1 : Int)))] [.box [.int .u8 (Con.kind c), .str (Con.src c), .str (Con.dst c), .str (Con.name c), .int .u8 (Ex.kind (Con.x c)), .str (Ex.rat (Con.x c)), .str (Ex.name (Con.x c)), .int .i64 (Ex.date (Con.x c)), .sl (List.length (Ex.sub (Con.x c))) 5 (Ex.deep (Con.x c)), .int .i64 (Con.date c), .osl 2 1 0 (List.length (Con.days c)), .sl (List.length (Con.sub c)) 12 (Con.conG (Con.sub c))], .box [.int .u8 0, .str [], .str [], .str [], .int .u8 0, .str [], .str [], .int .i64 0, .nils, .int .i64 0, .nils, .nils], .arr (List.length (Con.days c)) 1 (Con.dayG (Con.days c)), .arr (i + 1) 12 (appG i (Con.conG (Con.sub c)) (zi (zj 12 (Con.zg n)) 0)), .box (Con.zg (List.getD (Con.sub c) (Int.toNat (↑i : Int)) Con.nil)), .arr 1 12 (zj 12 (Con.zg n))]))))) (.leaf (.ret [.agg [.int .u8 (Con.kind c), .str (Con.src c), .str (Con.dst c), .str (Con.name c), .int .u8 (Ex.kind (Con.x c)), .str (Ex.rat (Con.x c)), .str (Ex.name (Con.x c)), .int .i64 (Ex.date (Con.x c)), .sl (List.length (Ex.sub (Con.x c))) 5 (Ex.deep (Con.x c)), .int .i64 (Con.date c), .osl 2 1 0 (List.length (Con.days c)), .osl 3 12 0 i]] [.box [.int .u8 (Con.kind c), .str (Con.src c), .str (Con.dst c), .str (Con.name c), .int .u8 (Ex.kind (Con.x c)), .str (Ex.rat (Con.x c)), .str (Ex.name (Con.x c)), .int .i64 (Ex.date (Con.x c)), .sl (List.length (Ex.sub (Con.x c))) 5 (Ex.deep (Con.x c)), .int .i64 (Con.date c), .osl 2 1 0 (List.length (Con.days c)), .osl 3 12 0 i], .box [.int .u8 (Con.kind c), .str (Con.src c), .str (Con.dst c), .str (Con.name c), .int .u8 (Ex.kind (Con.x c)), .str (Ex.rat (Con.x c)), .str (Ex.name (Con.x c)), .int .i64 (Ex.date (Con.x c)), .sl (List.length (Ex.sub (Con.x c))) 5 (Ex.deep (Con.x c)), .int .i64 (Con.date c), .osl 2 1 0 (List.length (Con.days c)), .osl 3 12 0 i], .arr (List.length (Con.days c)) 1 (Con.dayG (Con.days c)), .arr i 12 (Con.conG (Con.sub c))]))) (by kernel_rfl) ?_
  simp only [Tree.holds, ze, inR, lo, hi, Int.toNat_natCast]
  have hlb := Con.wy c.sub
  refine ⟨fun hlt => ?_, fun hge => ?_⟩
  ·have hlt : i < c.sub.length := by have := of_decide_eq_true hlt; omega
   have g1 := Con.qV hlt
   have g2 := Con.wQ hlt
   rw [Con.j4] at h1
   refine ⟨by omega, fun _ => ⟨c.sub.getD i Con.nil, ⟨⟨zD _, trivial⟩, by omega, by omega⟩, ⟨(), trivial⟩, fun _ _ => ?_⟩⟩
   refine ⟨⟨trivial, Nat.le_refl _, by omega⟩, fun _ => ⟨by omega, fun _ => ?_⟩⟩
   rw [if_pos trivial]
   refine ⟨⟨i + 1, hlt⟩, by show c.sub.length - (i + 1) < c.sub.length - i; omega, by simp [STc, Con.conS, za], ?_, by kernel_rfl, Nat.zero_le _⟩
   refine ⟨?_, ?_, ⟨rfl, rfl, za _ _ _⟩, ⟨rfl, rfl, QF⟩, trivial⟩
   ·simp [BTc, Con.conS, za]
   ·simp [BTz]
  ·have hge : i = c.sub.length := by have := of_decide_eq_false hge; omega
   subst hge
   exact hR _ rfl rfl
theorem vf (n sz : Nat) (g : Nat → Nat → AV) : eqG n sz (zi g 0) g := fun j o _ _ => by simp [zi]
theorem zgb {C : Ctr} {Q : AV × Heap → Prop} {c : Con} {h : Heap} (hC : C.fresh = false) (h2 : h[2]? = some (.arr c.days.length 1 (Con.dayG c.days))) (h3 : h[3]? = some (.arr c.sub.length 12 (Con.conG c.sub))) (hq : Q (c.conD, [])) : RetR C 0 Q (RTc c) h := by
 refine RetR.out0 hq (fun h => by rw [hC] at h; cases h) ?_
 simp only [RTc, Con.outD, resV, exp2, exp1, List.map_cons, List.map_nil, exp0, ren0, zA, frz1, jd, h2, h3, eqA2, eqA, eqL0, eqA0, Con.conD, Con.dayS, Ex.exS, true_and, and_true]
 simp only [if_true]
 exact ⟨Ex.z9 _, ⟨trivial, trivial, vf _ _ _⟩, trivial, trivial, fun j o hj ho => by have := Con.z9 c j o hj ho; simpa [zi] using this.symm⟩
theorem XO (n : Nat) (ih : zd Tryz.prog 134 (wO n)) : zd Tryz.prog 134 (wO (n + 1)) := by
 refine zk (fn := Tryz.f134) (c := Tryz.f134.body.getD .skip) rfl rfl rfl fun c hx O w0 Q hq => ?_
 exact Ym n ih c hx.1 hx.2 fun h a b => zgb rfl a b (hq () trivial)
theorem zgi (n : Nat) : zd Tryz.prog 134 (wO n) := by
 induction n with
 | zero =>
  intro args hc Q hq _
  simp only [wO, ctrP] at hq
  split at hq
  ·obtain ⟨x, ⟨_, h, _⟩, _⟩ := hq
   exact absurd h (Nat.not_lt_zero _)
  ·exact hq.elim
 | succ n ih => exact XO n ih
def zc4 : Ctr := ctrP false (fun c : Con => [c.conA]) (fun c => c.big < 2 ^ 38) (fun _ (_ : Unit) => True) (fun c _ => (c.outD (Ex.exS c.x.sub) (.osl 0 1 0 c.days.length) (.sl c.sub.length 12 c.deep), [.arr c.days.length 1 (Con.dayG c.days)]))
theorem zge : zd Tryz.prog 134 zc4 := by
 refine zk (fn := Tryz.f134) (c := Tryz.f134.body.getD .skip) rfl rfl rfl fun c hx O w0 Q hq => ?_
 refine Ym c.nodes (zgi _) c (Nat.lt_succ_self _) hx fun h a b => ?_
 replace hq := hq () trivial
 have hl : 2 < h.length := (List.getElem?_eq_some_iff.1 a).1
 refine RetR.outs [2] rfl (by simp; omega) hq (fun h => by cases h) ?_ ?_ rfl
 ·simp only [RTc, Con.outD, resV, exp2, exp1, List.map_cons, List.map_nil, exp0, ren0, zA, frz1, jd, a, b, eqA2, eqA, eqL0, eqL1, eqA0, Con.dayS, Ex.exS, true_and, and_true]
  simp only [if_true]
  refine ⟨Ex.z9 _, ⟨trivial, trivial, trivial, trivial⟩, ?_⟩
  show c.sub.length = c.sub.length ∧ (12 : Nat) = 12 ∧ eqG c.sub.length 12 (zi (Con.conG c.sub) 0) c.deep
  exact ⟨rfl, rfl, fun j o hj ho => by have := Con.z9 c j o hj ho; simpa [zi] using this.symm⟩
 ·simp only [expH, List.map_cons, List.map_nil, List.getD, a, Option.getD_some, expB]
  exact ⟨⟨rfl, rfl, za _ _ _⟩, trivial⟩
def y9 : Ctr := ctrP false (fun c : Con => [c.conA]) (fun c => c.big < 2 ^ 38) (fun _ (_ : Unit) => True) (fun c _ => (c.conD, []))
theorem zh7 : zd Tryz.prog 134 y9 := zO Con.nodes XO
noncomputable def GRt0 : Nat → Option Ctr := fun f => if f = 104 then some (Zl) else none
theorem ze2 : ∀ g c, GRt0 g = some c → zd Tryz.prog g c := okIf Uo (zx)
noncomputable def GRtc (n : Nat) : Nat → Option Ctr := fun f => if f = 27 then some (wO n) else GRt0 f
theorem Yl {n : Nat} (ih : zd Tryz.prog 27 (wO n)) : ∀ g c, GRtc n g = some c → zd Tryz.prog g c := fun g c h => by
 unfold GRtc at h
 split at h
 ·rename_i e; cases h; subst e; exact ih
 ·exact ze2 g c h
def SRc (i : Nat) : KV := [(1, .ptr 0 0), (2, .ptr 1 0), (3, .ptr 2 0), (4, .int .i64 (i : Int))]
def HRc (c : Con) (i : Nat) : Heap := [.box c.zh, BTz, .box [.int .u8 c.kind, .str c.src, .str c.dst, .str c.name, .int .u8 c.x.kind, .str c.x.rat, .str c.x.name, .int .i64 c.x.date, .sl c.x.sub.length 5 c.x.deep, .int .i64 c.date, .osl 3 1 0 c.days.length, .osl 4 12 0 i], .arr c.days.length 1 (Con.dayG c.days), .arr i 12 (Con.conG c.sub)]
theorem UQ (n : Nat) (ih : zd Tryz.prog 27 (wO n)) : zd Tryz.prog 27 (wO (n + 1)) := by
 refine zk (fn := Tryz.f27) (c := Tryz.f27.body.getD .skip) rfl rfl rfl fun c hx O w0 Q hq => ?_
 obtain ⟨h1, h2⟩ := hx
 replace hq := hq () trivial
 have hb := h2
 rw [Con.w7] at hb
 refine zc.run hmix (Yl ih) [1, 2, 3, 4] 400 (T := .ex (fun (x : Ex) => eqL [(Ex.exA (Con.x c))] [x.exA] ∧ Ex.size x < 1099511627776) fun n => .all (fun (x : Unit) => True) fun n_1 => .side (0 = 0 ∧ 0 ≤ 0 ∧ (0 + List.length (Con.days c)) * 8 ≤ 140737488355328) (.leaf (.loop (Prod.fst (lps K27 0)) (Prod.snd (lps K27 0)) [(1, .ptr 0 0), (2, .ptr 1 0), (3, .ptr 2 0), (4, .int .i64 0)] [.box (Con.zh c), .box [.int .u8 0, .str (Array.toList #[]), .str (Array.toList #[]), .str (Array.toList #[]), .int .u8 0, .str (Array.toList #[]), .str (Array.toList #[]), .int .i64 0, .nils, .int .i64 0, .nils, .nils], .box [.int .u8 (Con.kind c), .str (Con.src c), .str (Con.dst c), .str (Con.name c), .int .u8 n.kind, .str n.rat, .str n.name, .int .i64 n.date, .sl n.sub.length 5 n.deep, .int .i64 (Con.date c), .osl 3 1 0 (0 + List.length (Con.days c)), .nils], .arr (0 + List.length (Con.days c)) 1 (appG 0 (zj 1 []) (Con.dayG (Con.days c)))]))) (by kernel_rfl) ?_
 simp only [Tree.holds, ze, inR, lo, hi, Int.toNat_natCast]
 have hlb := Con.wy c.sub
 refine ⟨c.x, ⟨⟨zK c.x, trivial⟩, by show c.x.size < _; omega⟩, ⟨(), trivial⟩, fun _ _ => ⟨⟨trivial, Nat.le_refl _, by omega⟩, fun _ => ?_⟩⟩
 refine zc.zhj 2 11 12 (Con.conG c.sub) rfl rfl (by kernel_rfl) ?_
 refine zc.loop (ι := {i : Nat // i ≤ c.sub.length}) (fun i => SRc i.1) (fun i => HRc c i.1) (fun i => c.sub.length - i.1) ⟨0, Nat.zero_le _⟩ 0 ?_ ?_ (by kernel_rfl)
 ·refine ⟨by simp [SRc], ?_, by kernel_rfl, Nat.zero_le _⟩
  refine ⟨zq c, by simp [BTz], ?_, ⟨by omega, rfl, yd _ _ _ _⟩, ⟨rfl, rfl, za _ _ _⟩, trivial⟩
  simp [Con.conS, za]
 ·rintro ⟨i, hil⟩
  refine zc.run hmix (Yl ih) [1, 2, 3, 4] 400 (T := .ite (decide ((↑i : Int) < (↑(List.length (Con.sub c)) : Int))) (.side ((0 : Int) ≤ i ∧ (↑i : Int) < (↑(List.length (Con.sub c)) : Int)) (.ex (fun (x : Con) => eqL [(Con.conD (List.getD (Con.sub c) (Int.toNat (↑i : Int)) Con.nil))] [(Con.conA x)] ∧ Con.nodes x < n ∧ Con.big x < 274877906944) fun n => .all (fun (x : Unit) => True) fun n_1 => .side (0 = 0 ∧ i ≤ i ∧ (i + 1) * 184 ≤ 140737488355328) (.side (inR .i64 ((↑i : Int) + (1 : Int))) (.leaf (.back 0 [(1, .ptr 0 0), (2, .ptr 1 0), (3, .ptr 2 0), (4, .int .i64 ((↑i : Int) + (1 : Int)))] [.box (Con.zh c), .box [.int .u8 0, .str [], .str [], .str [], .int .u8 0, .str [], .str [], .int .i64 0, .nils, .int .i64 0, .nils, .nils], .box [.int .u8 (Con.kind c), .str (Con.src c), .str (Con.dst c), .str (Con.name c), .int .u8 (Ex.kind (Con.x c)), .str (Ex.rat (Con.x c)), .str (Ex.name (Con.x c)), .int .i64 (Ex.date (Con.x c)), .sl (List.length (Ex.sub (Con.x c))) 5 (Ex.deep (Con.x c)), .int .i64 (Con.date c), .osl 3 1 0 (List.length (Con.days c)), .osl 4 12 0 (i + 1)], .arr (List.length (Con.days c)) 1 (Con.dayG (Con.days c)), .arr (i + 1) 12 (appG i (Con.conG (Con.sub c)) (zi (zj 12 (Con.zg n)) 0)), .arr 1 12 (zj 12 (Con.zg n))]))))) (.leaf (.ret [.agg [.int .u8 (Con.kind c), .str (Con.src c), .str (Con.dst c), .str (Con.name c), .int .u8 (Ex.kind (Con.x c)), .str (Ex.rat (Con.x c)), .str (Ex.name (Con.x c)), .int .i64 (Ex.date (Con.x c)), .sl (List.length (Ex.sub (Con.x c))) 5 (Ex.deep (Con.x c)), .int .i64 (Con.date c), .osl 3 1 0 (List.length (Con.days c)), .osl 4 12 0 i]] [.box (Con.zh c), .box [.int .u8 (Con.kind c), .str (Con.src c), .str (Con.dst c), .str (Con.name c), .int .u8 (Ex.kind (Con.x c)), .str (Ex.rat (Con.x c)), .str (Ex.name (Con.x c)), .int .i64 (Ex.date (Con.x c)), .sl (List.length (Ex.sub (Con.x c))) 5 (Ex.deep (Con.x c)), .int .i64 (Con.date c), .osl 3 1 0 (List.length (Con.days c)), .osl 4 12 0 i], .box [.int .u8 (Con.kind c), .str (Con.src c), .str (Con.dst c), .str (Con.name c), .int .u8 (Ex.kind (Con.x c)), .str (Ex.rat (Con.x c)), .str (Ex.name (Con.x c)), .int .i64 (Ex.date (Con.x c)), .sl (List.length (Ex.sub (Con.x c))) 5 (Ex.deep (Con.x c)), .int .i64 (Con.date c), .osl 3 1 0 (List.length (Con.days c)), .osl 4 12 0 i], .arr (List.length (Con.days c)) 1 (Con.dayG (Con.days c)), .arr i 12 (Con.conG (Con.sub c))]))) (by kernel_rfl) ?_
  simp only [Tree.holds, ze, inR, lo, hi, Int.toNat_natCast]
  refine ⟨fun hlt => ?_, fun hge => ?_⟩
  ·have hlt : i < c.sub.length := by have := of_decide_eq_true hlt; omega
   have g1 := Con.qV hlt
   have g2 := Con.wQ hlt
   rw [Con.j4] at h1
   refine ⟨by omega, fun _ => ⟨c.sub.getD i Con.nil, ⟨⟨zD _, trivial⟩, by omega, by omega⟩, ⟨(), trivial⟩, fun _ _ => ?_⟩⟩
   refine ⟨⟨trivial, Nat.le_refl _, by omega⟩, fun _ => ⟨by omega, fun _ => ?_⟩⟩
   rw [if_pos trivial]
   refine ⟨⟨i + 1, hlt⟩, by show c.sub.length - (i + 1) < c.sub.length - i; omega, by simp [SRc], ?_, by kernel_rfl, Nat.zero_le _⟩
   refine ⟨zq c, by simp [BTz], ?_, ⟨rfl, rfl, za _ _ _⟩, ⟨rfl, rfl, QF⟩, trivial⟩
   simp [Con.conS, za]
  ·have hge : i = c.sub.length := by have := of_decide_eq_false hge; omega
   subst hge
   refine RetR.out0 hq (fun h => by cases h) ?_
   simp only [Con.outD, resV, exp2, exp1, List.map_cons, List.map_nil, exp0, ren0, zA, frz1, jd, List.getElem?_cons_zero, List.getElem?_cons_succ, eqA2, eqA, eqL0, eqA0, Con.conD, Con.dayS, Ex.exS, true_and, and_true]
   simp only [if_true]
   exact ⟨Ex.z9 _, ⟨trivial, trivial, vf _ _ _⟩, trivial, trivial, fun j o hj ho => by have := Con.z9 c j o hj ho; simpa [zi] using this.symm⟩
theorem zgg : zd Tryz.prog 27 y9 := zO Con.nodes UQ
end Go.Proofs.Tryz
end

/- Contracts: comparison. -/
section
set_option maxRecDepth 100000
open Go Go.Sx Go.Proofs Go.Nov
namespace Go.Proofs.Tryz
attribute [local simp] eqKV eqA eqA0 eqH eqB eqL eqL0
noncomputable def K61 : List Go.Sx.Item := [.code (Tryz.f61.body.getD .skip)]
noncomputable def K32 : List Go.Sx.Item := [.code (Tryz.f32.body.getD .skip)]
def K0 : Ctr := ctrP true (fun p : List Int × List Int => [Con.dayS p.1, Con.dayS p.2]) (fun p => p.1.length < 2 ^ 40) (fun p r => (r = true ↔ p.1 = p.2)) (fun _ (r : Bool) => (.bool r, []))
def SSd (l m : List Int) (i : Nat) : KV := [(0, Con.dayS l), (1, Con.dayS m), (5, .int .i64 (i : Int))]
theorem Vg : zd Tryz.prog 61 K0 := by
 refine zk (fn := Tryz.f61) (c := Tryz.f61.body.getD .skip) rfl rfl rfl fun p hp O w0 Q hq => ?_
 obtain ⟨l, m⟩ := p
 simp only at hp hq
 refine zc.run hmix zy [0, 1, 5] 400 (T := .ite (!decide ((↑l.length : Int) = m.length)) (.leaf (.ret [.bool false] [])) (.leaf (.loop (Prod.fst (lps K61 0)) (Prod.snd (lps K61 0)) [(0, .sl l.length 1 (Con.dayG l)), (1, .sl m.length 1 (Con.dayG m)), (5, .int .i64 0)] []))) (by kernel_rfl) ?_
 simp only [Tree.holds, ze, inR, lo, hi, Int.toNat_natCast]
 refine ⟨fun h => ?_, fun h => ?_⟩
 ·refine RetR.scal (hq false ⟨fun h => (by cases h), fun he => ?_⟩) rfl (by simp [resV])
  subst he
  simp at h
 ·have hl : l.length = m.length := by simp at h; omega
  refine zc.loop (ι := {i : Nat // i ≤ l.length ∧ ∀ j, j < i → l.getD j 0 = m.getD j 0}) (fun i => SSd l m i.1) (fun _ => []) (fun i => l.length - i.1) ⟨0, Nat.zero_le _, fun j hj => by omega⟩ 0 ?_ ?_ (by kernel_rfl)
  ·exact ⟨by simp [SSd, Con.dayS, za], trivial, by kernel_rfl, Nat.zero_le _⟩
  ·rintro ⟨i, hil, hib⟩
   refine zc.run hmix zy [0, 1, 5] 400 (T := .ite (decide ((↑i : Int) < l.length)) (.side ((0 : Int) ≤ i ∧ (↑i : Int) < l.length) (.side ((0 : Int) ≤ i ∧ (↑i : Int) < m.length) (.ite (!decide (List.getD l (Int.toNat (↑i : Int)) (0 : Int) = List.getD m (Int.toNat (↑i : Int)) (0 : Int))) (.leaf (.ret [.bool false] [])) (.side (inR .i64 ((↑i : Int) + (1 : Int))) (.leaf (.back 0 [(0, .sl l.length 1 (Con.dayG l)), (1, .sl m.length 1 (Con.dayG m)), (5, .int .i64 ((↑i : Int) + (1 : Int)))] [])))))) (.leaf (.ret [.bool true] []))) (by kernel_rfl) ?_
   simp only [Tree.holds, ze, inR, lo, hi, Int.toNat_natCast]
   refine ⟨fun hlt => ?_, fun hge => ?_⟩
   ·have hlt : i < l.length := by have := of_decide_eq_true hlt; omega
    refine ⟨by omega, fun _ => ⟨by omega, fun _ => ⟨fun g => ?_, fun g => ⟨by omega, fun _ => ?_⟩⟩⟩⟩
    ·refine RetR.scal (hq false ⟨fun h => (by cases h), fun h3 => ?_⟩) rfl (by simp [resV])
     subst h3; simp at g
    ·have g : l.getD i 0 = m.getD i 0 := by simpa using g
     rw [if_pos trivial]
     refine ⟨⟨i + 1, hlt, fun j hj => ?_⟩, by show l.length - (i + 1) < l.length - i; omega, by simp [SSd, Con.dayS, za], trivial, by kernel_rfl, Nat.zero_le _⟩
     rcases Nat.lt_or_ge j i with h1 | h1
     ·exact hib j h1
     ·have : j = i := by omega
      rw [this]; exact g
   ·have hge : i = l.length := by have := of_decide_eq_false hge; omega
    subst hge
    refine RetR.scal (hq true ⟨fun _ => ?_, fun _ => rfl⟩) rfl (by simp [resV])
    apply List.ext_getElem hl
    intro j g1 g2
    have := hib j g1
    simpa [List.getD, g1, g2] using this
theorem X6 (p : Prop) : ∃ b : Bool, (b = true ↔ p) := by
 classical
 exact ⟨decide p, by simp⟩
def JM (n : Nat) : Ctr := ctrP true (fun p : Con × Con => [p.1.conA, p.2.conA]) (fun p => p.1.nodes < n ∧ p.1.big < 2 ^ 40) (fun p r => (r = true ↔ p.1 = p.2)) (fun _ (r : Bool) => (.bool r, []))
noncomputable def GSc0 : Nat → Option Ctr := fun f => if f = 31 then some (Vn) else if f = 61 then some (K0) else none
theorem zdl : ∀ g c, GSc0 g = some c → zd Tryz.prog g c := okIf Uw (okIf Vg (zx))
noncomputable def GScn (n : Nat) : Nat → Option Ctr := fun f => if f = 32 then some (JM n) else GSc0 f
theorem XQ {n : Nat} (ih : zd Tryz.prog 32 (JM n)) : ∀ g c, GScn n g = some c → zd Tryz.prog g c := fun g c h => by
 unfold GScn at h
 split at h
 ·rename_i e; cases h; subst e; exact ih
 ·exact zdl g c h
def SSc (i : Nat) : KV := [(2, .ptr 0 0), (3, .ptr 1 0), (5, .int .i64 (i : Int)), (73, .undef), (74, .undef), (75, .undef), (76, .undef), (77, .undef)]
theorem Kj (n : Nat) (ih : zd Tryz.prog 32 (JM n)) : zd Tryz.prog 32 (JM (n + 1)) := by
 refine zk (fn := Tryz.f32) (c := Tryz.f32.body.getD .skip) rfl rfl rfl fun p hp O w0 Q hq => ?_
 obtain ⟨a, b⟩ := p
 obtain ⟨h1, h2⟩ := hp
 simp only at h1 h2 hq
 refine zc.run hmix (XQ ih) [2, 3, 5, 73, 74, 75, 76, 77] 400 (T := .ite (bif bif bif bif bif !decide (Con.kind a = Con.kind b) then true else !decide (Con.src a = Con.src b) then true else !decide (Con.dst a = Con.dst b) then true else !decide (Con.name a = Con.name b) then true else !decide (Con.date a = Con.date b) then true else !decide ((↑(List.length (Con.sub a)) : Int) = (↑(List.length (Con.sub b)) : Int))) (.leaf (.ret [.bool false] [.box (Con.zh a), .box (Con.zh b)])) (.leaf (.loop (Prod.fst (lps K32 0)) (Prod.snd (lps K32 0)) [(2, .ptr 0 0), (3, .ptr 1 0), (5, .int .i64 0), (73, .undef), (74, .undef), (75, .undef), (76, .undef), (77, .undef)] [.box (Con.zh a), .box (Con.zh b)]))) (by kernel_rfl) ?_
 simp only [Tree.holds, ze, inR, lo, hi, Int.toNat_natCast]
 have hb := h2
 rw [Con.w7] at hb
 have hlb := Con.wy a.sub
 refine ⟨fun h => ?_, fun h => ?_⟩
 ·refine RetR.scal (hq false ⟨fun h => (by cases h), fun he => ?_⟩) rfl (by simp [resV])
  subst he
  simp at h
 ·simp at h
  obtain ⟨⟨⟨⟨⟨g1, g2⟩, g3⟩, g4⟩, g5⟩, g6⟩ := h
  have g6 : a.sub.length = b.sub.length := by omega
  refine zc.loop (ι := {i : Nat // i ≤ a.sub.length ∧ ∀ j, j < i → a.sub.getD j Con.nil = b.sub.getD j Con.nil}) (fun i => SSc i.1) (fun _ => [.box a.zh, .box b.zh]) (fun i => a.sub.length - i.1) ⟨0, Nat.zero_le _, fun j hj => by omega⟩ 0 ?_ ?_ (by kernel_rfl)
  ·exact ⟨by simp [SSc], ⟨zq a, zq b, trivial⟩, by kernel_rfl, Nat.zero_le _⟩
  ·rintro ⟨i, hil, hib⟩
   refine zc.run hmix (XQ ih) [2, 3, 5, 73, 74, 75, 76, 77] 400 (T := .ite (decide ((↑i : Int) < (↑(List.length (Con.sub a)) : Int))) (.side ((0 : Int) ≤ i ∧ (↑i : Int) < (↑(List.length (Con.sub a)) : Int)) (.side ((0 : Int) ≤ i ∧ (↑i : Int) < (↑(List.length (Con.sub b)) : Int)) (.ex (fun (x : Con × Con) => eqL [(Con.conD (List.getD (Con.sub a) (Int.toNat (↑i : Int)) Con.nil)), (Con.conD (List.getD (Con.sub b) (Int.toNat (↑i : Int)) Con.nil))] [(Con.conA x.1), (Con.conA x.2)] ∧ Con.nodes x.1 < n ∧ Con.big x.1 < 1099511627776) fun n => .all (fun (r : Bool) => r = true ↔ n.1 = n.2) fun n => .ite (!n) (.leaf (.ret [.bool false] [.box (Con.zh a), .box (Con.zh b)])) (.side (inR .i64 ((↑i : Int) + (1 : Int))) (.leaf (.back 0 [(2, .ptr 0 0), (3, .ptr 1 0), (5, .int .i64 ((↑i : Int) + (1 : Int))), (73, .undef), (74, .undef), (75, .undef), (76, .undef), (77, .undef)] [.box (Con.zh a), .box (Con.zh b)])))))) (.ex (fun (x : Ex × Ex) => eqL [(Ex.exA (Con.x a)), (Ex.exA (Con.x b))] [x.1.exA, x.2.exA] ∧ Ex.size x.1 < 1152921504606846976) fun n => .all (fun (r : Bool) => r = true ↔ n.1 = n.2) fun n => .ex (fun (x : List Int × List Int) => n = true → eqL [AV.sl (List.length (Con.days a)) 1 (Con.dayG (Con.days a)), AV.sl (List.length (Con.days b)) 1 (Con.dayG (Con.days b))] [AV.sl x.1.length 1 (Con.dayG x.1), AV.sl x.2.length 1 (Con.dayG x.2)] ∧ x.1.length < 1099511627776) fun n_1 => .all (fun (x : Bool) => n = true → (x = true ↔ n_1.1 = n_1.2)) fun n_2 => .leaf (.ret [.bool (bif n then n_2 else false)] [.box (Con.zh a), .box (Con.zh b)]))) (by kernel_rfl) ?_
   simp only [Tree.holds, ze, inR, lo, hi, Int.toNat_natCast]
   refine ⟨fun hlt => ?_, fun hge => ?_⟩
   ·have hlt : i < a.sub.length := by have := of_decide_eq_true hlt; omega
    have e1 := Con.qV hlt
    have e2 := Con.wQ hlt
    rw [Con.j4] at h1
    refine ⟨by omega, fun _ => ⟨by omega, fun _ => ⟨(a.sub.getD i Con.nil, b.sub.getD i Con.nil), ⟨⟨zD _, zD _, trivial⟩, by simp only; omega, by simp only; omega⟩, X6 _, ?_⟩⟩⟩
    intro e he
    simp only at he
    refine ⟨fun g => ?_, fun g => ⟨by omega, fun _ => ?_⟩⟩
    ·refine RetR.scal (hq false ⟨fun h => (by cases h), fun h3 => ?_⟩) rfl (by simp [resV])
     have : e = true := he.2 (by rw [h3])
     rw [this] at g; cases g
    ·rw [if_pos trivial]
     have g : e = true := by simpa using g
     refine ⟨⟨i + 1, hlt, fun j hj => ?_⟩, by show a.sub.length - (i + 1) < a.sub.length - i; omega, by simp [SSc], ⟨zq a, zq b, trivial⟩, by kernel_rfl, Nat.zero_le _⟩
     rcases Nat.lt_or_ge j i with h1 | h1
     ·exact hib j h1
     ·have : j = i := by omega
      rw [this]; exact he.1 g
   ·have hge : i = a.sub.length := by have := of_decide_eq_false hge; omega
    subst hge
    have hls := Con.uk g6 hib
    refine ⟨(a.x, b.x), ⟨⟨zK a.x, zK b.x, trivial⟩, by simp only; omega⟩, X6 _, fun e1 h1 => ?_⟩
    refine ⟨(a.days, b.days), fun _ => ⟨by simp [za], by simp only; omega⟩, ?_, fun e2 h2 => ?_⟩
    ·obtain ⟨b, hb⟩ := X6 (a.days = b.days)
     exact ⟨b, fun _ => hb⟩
    ·refine RetR.scal (hq (bif e1 then e2 else false) ?_) rfl (by simp [resV])
     rw [Con.Zi]
     simp only at h1 h2
     cases e1 with
     | false => simp only [cond_false]; exact ⟨fun h => (by cases h), fun h => by have := h1.2 h.2.2.2.2.1; cases this⟩
     | true =>
      rw [cond_true, h2 rfl]
      exact ⟨fun h => ⟨g1, g2, g3, g4, h1.1 rfl, g5, h, hls⟩, fun h => h.2.2.2.2.2.2.1⟩
def VR : Ctr := ctrP true (fun p : Con × Con => [p.1.conA, p.2.conA]) (fun p => p.1.big < 2 ^ 40) (fun p r => (r = true ↔ p.1 = p.2)) (fun _ (r : Bool) => (.bool r, []))
theorem zcb : zd Tryz.prog 32 VR := zO (fun p => p.1.nodes) Kj
end Go.Proofs.Tryz
end

/- A contract with two outcomes. -/
section
namespace Go.Sx
variable [Stat]
variable {P : Program} {fn : Func}
def ctrD {X R : Type} (fresh : Bool) (inp : X → List AV) (pre : X → Prop) (yes : X → Bool) (post : X → R → Prop) (out : X → R → AV × Heap) (no : X → AV × Heap) : Ctr where
 fresh := fresh
 spec args hc := match hc with
  | [] => .ex (fun x => eqL args (inp x) ∧ pre x) fun x => .ite (yes x) (.all (post x) fun r => .leaf (out x r)) (.leaf (no x))
  | _ => .fail
theorem zdt {X R : Type} {fresh : Bool} {inp : X → List AV} {pre : X → Prop} {yes : X → Bool} {post : X → R → Prop} {out : X → R → AV × Heap} {no : X → AV × Heap} {g : Nat} {c : Code} (hf : P.funcs[g]? = some fn) (hb : fn.body = some c) (hn : (fn.name == "runtime.NumGoroutine") = false)
  (H : ∀ x, pre x → ∀ (O : Nat → Prop) (w0 : World) (Q : AV × Heap → Prop), (yes x = true → ∀ r, post x r → Q (out x r)) → (yes x = false → Q (no x)) →
   zc P fn O 0 w0 [] (fun _ _ _ => False) (RetR (ctrD fresh inp pre yes post out no) 0 Q) [.code c] (entry fn (inp x))) : zd P g (ctrD fresh inp pre yes post out no) := by
 intro args hc Q hq _
 simp only [ctrD] at hq
 split at hq
 ·obtain ⟨x, ⟨h1, h4⟩, h5, h6⟩ := hq
  refine jg.le h1 (fn_k hf hb hn (fun _ => rfl) fun O w0 σ0 hl => ?_)
  have : σ0 = [] := List.length_eq_zero_iff.1 (by simpa using hl)
  subst this
  exact H x h4 O w0 Q (fun hy r hr => (h5 hy).2 r hr) h6
 ·exact hq.elim
end Go.Sx
end

/- Integers as they are written: sums, products, comparisons. -/
section
namespace Go.Nov
end Go.Nov
end

/- Rationals as they are written. -/
section
namespace Go.Nov
def zh2 (a b : List UInt8) : Int := if errR a = 0 then errR b else errR a
def numR (a : List UInt8) : List UInt8 := (cutR a).1
def denR (a : List UInt8) : List UInt8 := if (cutR a).2.2 then (cutR a).2.1 else [49]
end Go.Nov
namespace Go.Nov
def room (x : Nat) : Prop := (dec x).length ≤ 1000
end Go.Nov
namespace Go.Nov
end Go.Nov
namespace Go.Nov
end Go.Nov
namespace Go.Nov
section
variable {a b n m d c : List UInt8} {e : Int} (hp : (e ≠ 0 ∧ zh2 a b = e) ∨ (e = 0 ∧ errR a = 0 ∧ errR b = 0 ∧ n = numR a ∧ m = numR b ∧ d = denR a ∧ c = denR b))
include hp
end
end Go.Nov
end

/- Rationals: what they mean. -/
section
namespace Go.Nov
end Go.Nov
end

/- Rationals: how a number is written; what the operations yield. -/
section
namespace Go.Nov
end Go.Nov
end

/- Rationals: what the operations yield. -/
section
namespace Go.Nov
section
variable {a b : List UInt8} (ha : errR a = 0) (hb : errR b = 0)
include ha hb
end
end Go.Nov
end

/- Truth values joined. -/
section
namespace Go.Nov
end Go.Nov
end

/- Tapes: checks, runs, values, degrees. -/
section
namespace Go.Nov
open Go.Sx
structure TOp where
 kind : Int
 a : Int
 b : Int
 rat : List UInt8
abbrev TOp.nil : TOp := ⟨0, 0, 0, []⟩
def TOp.cell (o : TOp) : Nat → AV
 | 0 => .int .u8 o.kind
 | 1 => .int .i64 o.a
 | 2 => .int .i64 o.b
 | 3 => .str o.rat
 | _ => .undef
def opG (l : List TOp) : Nat → Nat → AV := fun j => (l.getD j TOp.nil).cell
def opS (l : List TOp) : AV := .sl l.length 4 (opG l)
structure Tp where
 n : Int
 ops : List TOp
def Tp.av (t : Tp) : AV := .agg [.int .i64 t.n, opS t.ops]
def ratG (l : List (List UInt8)) : Nat → Nat → AV := fun j _ => .str (l.getD j [])
end Go.Nov
end

/- Templates: terms and contracts, plain. -/
section
namespace Go.Nov
open Go.Sx
structure Deal where
 long : List UInt8
 short : List UInt8
 ccy : List UInt8
 name : List UInt8
 zb : List UInt8
 zf : List UInt8
def Deal.av (d : Deal) : AV := .agg [.str d.long, .str d.short, .str d.ccy, .str d.name, .str d.zb, .str d.zf]
def Deal.cells (d : Deal) (e : Int) : List AV := [.int .i64 e, .str d.long, .str d.short, .str d.ccy, .str d.name, .str d.zb, .str d.zf]
namespace Tm
def kon (r : List UInt8) : Ex := .mk 1 r [] 0 []
def spot (n : List UInt8) : Ex := .mk 3 [] n 0 []
def opx (k : Int) (s : List Ex) : Ex := .mk k [] [] 0 s
def over (k : List UInt8) (x : Ex) (below : Bool) : Ex := opx 7 [kon [48], opx 5 (if below = true then [kon k, x] else [x, kon k])]
def pay (d : Deal) (x : Ex) (r : List UInt8) : Con := .mk 2 d.short d.long d.ccy (opx 6 [x, kon r]) 0 [] []
def at_ (day : Int) (c : Con) : Con := .mk 6 [] [] [] (.mk 0 [] [] 0 []) day [] [c]
def call (d : Deal) (ch : List UInt8) (days : List Int) (c : Con) : Con := .mk 8 d.long [] ch (.mk 0 [] [] 0 []) 0 days [c]
def first (e : Int) (l : List (List UInt8)) : Int := l.foldl (fun e r => if e = 0 then errR r else e) e
def zero : Con := .mk 0 [] [] [] (.mk 0 [] [] 0 []) 0 [] []
def fits (d : Deal) : Prop := d.long.length ≤ 200 ∧ d.short.length ≤ 200 ∧ d.ccy.length ≤ 200 ∧ d.name.length ≤ 200 ∧ d.zb.length ≤ 2500 ∧ d.zf.length ≤ 2500
def res (d : Deal) (c : Con) : Int := if first 0 [d.zb, d.zf] = 0 then c.errC else first 0 [d.zb, d.zf]
def out (e : Int) (c : Con) : Con := if e = 0 then c else zero
def fwd (d : Deal) (day : Int) : Con := at_ day (pay d (opx 5 [spot d.name, kon d.zb]) d.zf)
def pff (d : Deal) (day : Int) (put : Bool) : Con := at_ day (pay d (over d.zb (spot d.name) put) d.zf)
def opt (d : Deal) (ch : List UInt8) (days : List Int) (put : Bool) : Con := call d ch days (pay d (over d.zb (spot d.name) put) d.zf)
theorem Kt {e : Int} {l : List (List UInt8)} {i : Nat} (h : i < l.length) : first e (l.take (i + 1)) = if first e (l.take i) = 0 then errR (l.getD i []) else first e (l.take i) := by
 have : l.take (i + 1) = l.take i ++ [l.getD i []] := by
  rw [List.take_add_one]; simp [List.getD, h]
 unfold first
 rw [this, List.foldl_append]
 rfl
end Tm
end Go.Nov
end

/- Terms: literals said as data. -/
section
namespace Go.Sx
open Go.Nov
variable [Stat]
theorem zd.sink {P : Go.Program} {g : Nat} {c : Ctr} (h : zd P g c) : zd P g { c with sinks := true } := h
theorem LeL.dAt : ∀ {l m : List AV} (i : Nat), LeL l m → LeA (l.getD i .undef) (m.getD i .undef)
 | [], [], _, _ => LeA.refl _
 | [], _ :: _, _, h => by simp [LeL] at h
 | _ :: _, [], _, h => by simp [LeL] at h
 | a :: l, b :: m, 0, h => by simp only [LeL] at h; exact h.1
 | a :: l, b :: m, i + 1, h => by
  simp only [LeL] at h
  have := LeL.dAt i h.2
  simpa [List.getD] using this
theorem RetR.zb7 {ctr : Ctr} {m : Nat} {Q : AV × Heap → Prop} {rs : List AV} {h : Heap} {r : AV} {hs : Heap} (L : List Nat) (hnd : jA L = true) (hlt : (L.all fun i => decide (i < h.length)) = true) (hj : ∀ j, j < m → L[j]? = some j) (hf : ctr.fresh = false) (hq : Q (r, hs))
  (he : LeA (exp2 h L (resV rs)) r) (hb : eqH (expH h L) hs) (hl : hs.length = L.length) : RetR ctr m Q rs h :=
 ⟨L, hnd, fun i hi => by have := List.all_eq_true.1 hlt i hi; simpa using this, hj, (fun hh => absurd hh (by rw [hf]; decide)), r, hs, he, hb, hl, hq⟩
end Go.Sx
namespace Go.Nov
open Go.Sx
variable [Go.Sx.Stat]
theorem Ex.JD {x : Ex} {k d : Int} {r n : List UInt8} {c : List AV} (h : LeL c x.cellsD) : LeA (.sl 1 5 (zi (zj 5 c) 0)) (.sl 1 5 (Ex.mk k r n d [x]).deep) := by
 refine LeA.sl rfl fun j o hj ho => ?_
 have h0 : j = 0 := by omega
 subst h0
 rw [Ex.z9 (Ex.mk k r n d [x]) 0 o (by show 0 < 1; decide) ho]
 have := LeL.dAt o h
 simp only [zi, zj, Nat.zero_add, Nat.zero_mul]
 rcases (show o = 0 ∨ o = 1 ∨ o = 2 ∨ o = 3 ∨ o = 4 by omega) with rfl | rfl | rfl | rfl | rfl <;> exact this
theorem Ex.xU {x y : Ex} {k d : Int} {r n : List UInt8} {c : List AV} (h : LeL c (x.cellsD ++ y.cellsD)) : LeA (.sl 2 5 (zi (zj 5 c) 0)) (.sl 2 5 (Ex.mk k r n d [x, y]).deep) := by
 refine LeA.sl rfl fun j o hj ho => ?_
 rw [Ex.z9 (Ex.mk k r n d [x, y]) j o (by show j < 2; omega) ho]
 have := LeL.dAt (j * 5 + o) h
 simp only [zi, zj, Nat.zero_add]
 rcases (show j = 0 ∨ j = 1 by omega) with rfl | rfl <;> rcases (show o = 0 ∨ o = 1 ∨ o = 2 ∨ o = 3 ∨ o = 4 by omega) with rfl | rfl | rfl | rfl | rfl <;> exact this
theorem Ex.zdv (x y : Ex) : eqG 2 5 (zi (zj 5 (x.cellsD ++ y.cellsD)) 0) (Ex.exG [x, y]) := by
 intro j o hj ho
 simp only [zi, zj, Nat.zero_add]
 rcases (show j = 0 ∨ j = 1 by omega) with rfl | rfl <;> rcases (show o = 0 ∨ o = 1 ∨ o = 2 ∨ o = 3 ∨ o = 4 by omega) with rfl | rfl | rfl | rfl | rfl <;> rfl
theorem Ex.zea {x y : Ex} {c : List AV} (h : LeL c (x.cellsD ++ y.cellsD)) : LeA (.sl 2 5 (zi (zj 5 c) 0)) (.sl 2 5 (Ex.exG [x, y])) := by
 refine LeA.sl rfl fun j o hj ho => ?_
 have := LeL.dAt (j * 5 + o) h
 simp only [zi, zj, Nat.zero_add]
 rcases (show j = 0 ∨ j = 1 by omega) with rfl | rfl <;> rcases (show o = 0 ∨ o = 1 ∨ o = 2 ∨ o = 3 ∨ o = 4 by omega) with rfl | rfl | rfl | rfl | rfl <;> exact this
theorem Ex.wh (z : Ex) : LeA (.sl z.sub.length 5 (Ex.exG z.sub)) (.sl z.sub.length 5 z.deep) := LeA.sl rfl fun j o hj ho => by rw [Ex.z9 z j o hj ho]; exact LeA.refl _
theorem Con.wh (z : Con) : LeA (.sl z.sub.length 12 (Con.conG z.sub)) (.sl z.sub.length 12 z.deep) := LeA.sl rfl fun j o hj ho => by rw [Con.z9 z j o hj ho]; exact LeA.refl _
theorem Con.JD {e : Con} {k d : Int} {a b n : List UInt8} {x : Ex} {l : List Int} {c : List AV} (h : LeL c e.zg) : LeA (.sl 1 12 (zi (zj 12 c) 0)) (.sl 1 12 (Con.mk k a b n x d l [e]).deep) := by
 refine LeA.sl rfl fun j o hj ho => ?_
 have h0 : j = 0 := by omega
 subst h0
 rw [Con.z9 (Con.mk k a b n x d l [e]) 0 o (by show 0 < 1; decide) ho]
 have := LeL.dAt o h
 simp only [zi, zj, Nat.zero_add, Nat.zero_mul]
 rcases (show o = 0 ∨ o = 1 ∨ o = 2 ∨ o = 3 ∨ o = 4 ∨ o = 5 ∨ o = 6 ∨ o = 7 ∨ o = 8 ∨ o = 9 ∨ o = 10 ∨ o = 11 by omega) with rfl | rfl | rfl | rfl | rfl | rfl | rfl | rfl | rfl | rfl | rfl | rfl <;> exact this
end Go.Nov
end

/- Templates: parts. -/
section
set_option maxRecDepth 100000
open Go Go.Sx Go.Proofs Go.Nov
namespace Go.Proofs.Tryz
attribute [local simp] eqKV eqA eqA0 eqH eqB eqL eqL0
noncomputable def K156 : List Go.Sx.Item := [.code (Tryz.f156.body.getD .skip)]
def opC : Ctr := ctrP false (fun p : Int × List Ex => [.int .u8 p.1, Ex.exS p.2]) (fun _ => True) (fun _ (_ : Unit) => True) (fun p _ => (exD (Tm.opx p.1 p.2), []))
def konC : Ctr := ctrP false (fun r : List UInt8 => [.str r]) (fun _ => True) (fun _ (_ : Unit) => True) (fun r _ => (exD (Tm.kon r), []))
theorem zh9 : zd Tryz.prog 142 opC := by
 refine zk (fn := Tryz.f142) (c := Tryz.f142.body.getD .skip) rfl rfl rfl fun p hp O w0 Q hq => ?_
 obtain ⟨k, s⟩ := p
 replace hq := hq () trivial
 refine zc.run hmix zy [] 400 (T := .leaf (.ret [.agg [.int .u8 k, .str (Array.toList #[]), .str (Array.toList #[]), .int .i64 0, .sl s.length 5 (Ex.exG s)]] [.box [.int .u8 k, .str (Array.toList #[]), .str (Array.toList #[]), .int .i64 0, .sl s.length 5 (Ex.exG s)]])) (by kernel_rfl) ?_
 simp only [Tree.holds, ze]
 refine RetR.out0 hq (fun h => by cases h) ?_
 exact ⟨⟨rfl, rfl⟩, rfl, rfl, ⟨rfl, rfl⟩, ⟨rfl, rfl, fun j o hj ho => (Ex.z9 (Tm.opx k s) j o hj ho).symm⟩, trivial⟩
theorem Xa : zd Tryz.prog 144 konC := by
 refine zk (fn := Tryz.f144) (c := Tryz.f144.body.getD .skip) rfl rfl rfl fun r hp O w0 Q hq => ?_
 replace hq := hq () trivial
 refine zc.run hmix zy [] 400 (T := .leaf (.ret [.agg [.int .u8 1, .str r, .str (Array.toList #[]), .int .i64 0, .nils]] [.box [.int .u8 1, .str r, .str (Array.toList #[]), .int .i64 0, .nils]])) (by kernel_rfl) ?_
 simp only [Tree.holds, ze]
 refine RetR.out0 hq (fun h => by cases h) ?_
 exact ⟨⟨rfl, rfl⟩, rfl, rfl, ⟨rfl, rfl⟩, rfl, trivial⟩
noncomputable def Yz : Ctr := inlC Tryz.prog noG 100 Tryz.f216
theorem Zn : zd Tryz.prog 216 Yz := xA hmix zy rfl rfl
noncomputable def GTnu : Nat → Option Ctr := fun f => if f = 83 then some (JZ) else if f = 216 then some (Yz) else none
theorem Yr : ∀ g c, GTnu g = some c → zd Tryz.prog g c := okIf Jp (okIf Zn (zx))
def SNu (l : List (List UInt8)) (i : Nat) : KV := [(0, .ptr 0 0), (6, .osl 1 1 0 l.length), (7, .int .i64 (l.length : Int)), (8, .int .i64 (i : Int))]
def XZ : Ctr := ctrT false false (fun p : Deal × Int × List (List UInt8) => [.ptr 0 0, .osl 1 1 0 p.2.2.length]) (fun p => [.box (p.1.cells p.2.1), .arr p.2.2.length 1 (ratG p.2.2)]) (fun p => p.2.2.length < 2 ^ 40 ∧ ∀ r ∈ p.2.2, r.length < 2 ^ 40) (fun _ (_ : Unit) => True) (fun p _ => (.tup [], [.box (p.1.cells (Tm.first p.2.1 p.2.2)), .arr p.2.2.length 1 (ratG p.2.2)]))
theorem YJ : zd Tryz.prog 156 XZ := by
 refine wB (fn := Tryz.f156) (c := Tryz.f156.body.getD .skip) rfl rfl rfl (fun h => by cases h) fun p hp O w0 σ0 Q hl0 hq => ?_
 obtain ⟨t, e, l⟩ := p
 obtain ⟨hl, hr⟩ := hp
 replace hq := hq () trivial
 simp only at hl hr hq
 refine zc.run hmix Yr [0, 6, 7, 8] 400 (T := .leaf (.loop (Prod.fst (lps K156 0)) (Prod.snd (lps K156 0)) [(0, .ptr 0 0), (6, .osl 1 1 0 l.length), (7, .int .i64 l.length), (8, .int .i64 0)] [.box [.int .i64 e, .str (Deal.long t), .str (Deal.short t), .str (Deal.ccy t), .str (Deal.name t), .str (Deal.zb t), .str (Deal.zf t)], .arr l.length 1 (ratG l)])) (by kernel_rfl) ?_
 simp only [Tree.holds, ze, inR, lo, hi, Int.toNat_natCast]
 show z3 none Tryz.prog Tryz.f156 O 2 w0 σ0 _ _ _ _
 refine zc.loop (ι := {i : Nat // i ≤ l.length}) (fun i => SNu l i.1) (fun i => [.box (t.cells (Tm.first e (l.take i.1))), .arr l.length 1 (ratG l)]) (fun i => l.length - i.1) ⟨0, Nat.zero_le _⟩ 0 ?_ ?_ (by kernel_rfl)
 ·exact ⟨by simp [SNu], by simp [Deal.cells, Tm.first, za], by kernel_rfl, Nat.le_refl _⟩
 ·rintro ⟨i, hil⟩
  obtain ⟨e', he'⟩ : ∃ e', Tm.first e (l.take i) = e' := ⟨_, rfl⟩
  simp only [he']
  refine zc.run hmix Yr [0, 6, 7, 8] 400 (T := .ite (decide ((↑i : Int) < l.length)) (.side ((0 : Int) ≤ i ∧ (↑i : Int) < l.length) (.ex (fun (x : List UInt8) => eqL [AV.str (List.getD l (0 + Int.toNat (↑i : Int)) [])] [AV.str x] ∧ x.length < 4611686018427387904) fun n => .all (fun (r : Int) => r = errR n) fun n => .ite (decide (e' = (0 : Int))) (.side (inR .i64 ((↑i : Int) + (1 : Int))) (.leaf (.back 0 [(0, .ptr 0 0), (6, .osl 1 1 0 l.length), (7, .int .i64 l.length), (8, .int .i64 ((↑i : Int) + (1 : Int)))] [.box [.int .i64 n, .str (Deal.long t), .str (Deal.short t), .str (Deal.ccy t), .str (Deal.name t), .str (Deal.zb t), .str (Deal.zf t)], .arr l.length 1 (ratG l)]))) (.side (inR .i64 ((↑i : Int) + (1 : Int))) (.leaf (.back 0 [(0, .ptr 0 0), (6, .osl 1 1 0 l.length), (7, .int .i64 l.length), (8, .int .i64 ((↑i : Int) + (1 : Int)))] [.box [.int .i64 e', .str (Deal.long t), .str (Deal.short t), .str (Deal.ccy t), .str (Deal.name t), .str (Deal.zb t), .str (Deal.zf t)], .arr l.length 1 (ratG l)]))))) (.leaf (.ret [] [.box [.int .i64 e', .str (Deal.long t), .str (Deal.short t), .str (Deal.ccy t), .str (Deal.name t), .str (Deal.zb t), .str (Deal.zf t)], .arr l.length 1 (ratG l)]))) (by kernel_rfl) ?_
  simp only [Tree.holds, ze, inR, lo, hi, Int.toNat_natCast]
  refine ⟨fun hlt => ?_, fun hge => ?_⟩
  ·have hlt : i < l.length := by have := of_decide_eq_true hlt; omega
   have ht := Tm.Kt (e := e) hlt
   rw [he'] at ht
   have hrl := hr (l.getD i []) (by simp [List.getD, hlt])
   refine ⟨by omega, fun _ => ⟨l.getD i [], ⟨by simp, by omega⟩, ⟨_, rfl⟩, ?_⟩⟩
   rintro _ rfl
   refine ⟨fun h => ⟨by omega, fun _ => ?_⟩, fun h => ⟨by omega, fun _ => ?_⟩⟩
   ·rw [if_pos (of_decide_eq_true h)] at ht
    rw [if_pos trivial]
    exact ⟨⟨i + 1, hlt⟩, by show l.length - (i + 1) < l.length - i; omega, by simp [SNu], by simp [Deal.cells, ht, za], by kernel_rfl, Nat.le_refl _⟩
   ·rw [if_neg (of_decide_eq_false h)] at ht
    rw [if_pos trivial]
    exact ⟨⟨i + 1, hlt⟩, by show l.length - (i + 1) < l.length - i; omega, by simp [SNu], by simp [Deal.cells, ht, za], by kernel_rfl, Nat.le_refl _⟩
  ·have hge : i = l.length := by have := of_decide_eq_false hge; omega
   rw [hge, List.take_length] at he'
   rw [he'] at hq
   exact RetR.keep [0, 1] rfl rfl (by show ∀ j, j < 2 → _; decide) rfl hq (by simp [resV, exp2, exp1, exp0, ren0, eqA2, eqL1]) (by simp [expH, expB, exp1, exp0, ren0, Deal.cells, za]) rfl
def UW : Ctr := ctrT false false (fun p : Deal × Int => [.ptr 0 0]) (fun p => [.box (p.1.cells p.2)]) (fun _ => True) (fun _ (_ : Unit) => True) (fun p _ => (exD (Tm.spot p.1.name), [.box (p.1.cells p.2)]))
theorem XV : zd Tryz.prog 143 UW := by
 refine wB (fn := Tryz.f143) (c := Tryz.f143.body.getD .skip) rfl rfl rfl (fun h => by cases h) fun p hp O w0 σ0 Q hl0 hq => ?_
 obtain ⟨t, e⟩ := p
 replace hq := hq () trivial
 refine zc.run hmix zy [] 400 (T := .leaf (.ret [.agg [.int .u8 3, .str (Array.toList #[]), .str (Deal.name t), .int .i64 0, .nils]] [.box [.int .i64 e, .str (Deal.long t), .str (Deal.short t), .str (Deal.ccy t), .str (Deal.name t), .str (Deal.zb t), .str (Deal.zf t)], .box [.int .u8 3, .str (Array.toList #[]), .str (Deal.name t), .int .i64 0, .nils]])) (by kernel_rfl) ?_
 simp only [Tree.holds, ze]
 refine RetR.keep [0] rfl rfl (by show ∀ j, j < 1 → _; decide) rfl hq ?_ (by simp [expH, expB, exp1, exp0, ren0, Deal.cells]) rfl
 exact ⟨⟨rfl, rfl⟩, rfl, rfl, ⟨rfl, rfl⟩, rfl, trivial⟩
noncomputable def opI : Ctr := inlC Tryz.prog noG 100 Tryz.f142
theorem zgk : zd Tryz.prog 142 opI := xA hmix zy rfl rfl
noncomputable def GPt : Nat → Option Ctr := fun f => if f = 142 then some (opI) else if f = 144 then some (konC) else none
theorem UX : ∀ g c, GPt g = some c → zd Tryz.prog g c := okIf zgk (okIf Xa (zx))
def zfh : Ctr := ctrT false false (fun p : Deal × Int × Ex × Bool => [.ptr 0 0, p.2.2.1.exA, .bool p.2.2.2]) (fun p => [.box (p.1.cells p.2.1)]) (fun _ => True) (fun _ (_ : Unit) => True) (fun p _ => (exD (Tm.over p.1.zb p.2.2.1 p.2.2.2), [.box (p.1.cells p.2.1)]))
theorem zem : zd Tryz.prog 152 zfh := by
 refine wB (fn := Tryz.f152) (c := Tryz.f152.body.getD .skip) rfl rfl rfl (fun h => by cases h) fun p hp O w0 σ0 Q hl0 hq => ?_
 obtain ⟨t, e, x, b⟩ := p
 replace hq := hq () trivial
 simp only at hq
 refine zc.run hmix UX [] 400 (T := .ex (fun (x : List UInt8) => eqL [AV.str (Deal.zb t)] [AV.str x] ∧ True) fun n => .all (fun (x : Unit) => True) fun n_1 => .ite b (.all (fun (x : Bool) => True) fun n_2 => .ite n_2 (.ex (fun (x : List UInt8) => eqL [AV.str (Array.toList #[(48 : UInt8)])] [AV.str x] ∧ True) fun n_3 => .all (fun (x : Unit) => True) fun n_4 => .leaf (.ret [.agg [.int .u8 7, .str (Array.toList #[]), .str (Array.toList #[]), .int .i64 0, .osl 6 5 0 2]] [.box [.int .i64 e, .str (Deal.long t), .str (Deal.short t), .str (Deal.ccy t), .str (Deal.name t), .str (Deal.zb t), .str (Deal.zf t)], .box (Ex.cellsD (Tm.kon n)), .box [.int .u8 7, .str (Array.toList #[]), .str (Array.toList #[]), .int .i64 0, .osl 6 5 0 2], .box [.int .u8 x.kind, .str x.rat, .str x.name, .int .i64 x.date, .sl x.sub.length 5 (Ex.exG x.sub)], .arr 2 5 (zj 5 [.int .u8 (Ex.kind (Tm.kon n)), .str (Ex.rat (Tm.kon n)), .str (Ex.name (Tm.kon n)), .int .i64 (Ex.date (Tm.kon n)), .sl (List.length (Ex.sub (Tm.kon n))) 5 (Ex.deep (Tm.kon n)), .int .u8 x.kind, .str x.rat, .str x.name, .int .i64 x.date, .sl x.sub.length 5 (Ex.exG x.sub)]), .box [.int .u8 5, .str (Array.toList #[]), .str (Array.toList #[]), .int .i64 0, .osl 4 5 0 2], .box [.int .u8 (Ex.kind (Tm.kon n_3)), .str (Ex.rat (Tm.kon n_3)), .str (Ex.name (Tm.kon n_3)), .int .i64 (Ex.date (Tm.kon n_3)), .sl (List.length (Ex.sub (Tm.kon n_3))) 5 (Ex.deep (Tm.kon n_3)), .int .u8 5, .str (Array.toList #[]), .str (Array.toList #[]), .int .i64 0, .osl 4 5 0 2], .box [.int .u8 7, .str (Array.toList #[]), .str (Array.toList #[]), .int .i64 0, .osl 6 5 0 2]])) (.ex (fun (x : List UInt8) => eqL [AV.str (Array.toList #[(48 : UInt8)])] [AV.str x] ∧ True) fun n_3 => .all (fun (x : Unit) => True) fun n_4 => .leaf (.ret [.agg [.int .u8 7, .str (Array.toList #[]), .str (Array.toList #[]), .int .i64 0, .osl 6 5 0 2]] [.box [.int .i64 e, .str (Deal.long t), .str (Deal.short t), .str (Deal.ccy t), .str (Deal.name t), .str (Deal.zb t), .str (Deal.zf t)], .box (Ex.cellsD (Tm.kon n)), .box [.int .u8 7, .str (Array.toList #[]), .str (Array.toList #[]), .int .i64 0, .osl 6 5 0 2], .box [.int .u8 x.kind, .str x.rat, .str x.name, .int .i64 x.date, .sl x.sub.length 5 (Ex.exG x.sub)], .arr 2 5 (zj 5 [.int .u8 (Ex.kind (Tm.kon n)), .str (Ex.rat (Tm.kon n)), .str (Ex.name (Tm.kon n)), .int .i64 (Ex.date (Tm.kon n)), .sl (List.length (Ex.sub (Tm.kon n))) 5 (Ex.deep (Tm.kon n)), .int .u8 x.kind, .str x.rat, .str x.name, .int .i64 x.date, .sl x.sub.length 5 (Ex.exG x.sub)]), .box [.int .u8 5, .str (Array.toList #[]), .str (Array.toList #[]), .int .i64 0, .osl 4 5 0 2], .box [.int .u8 (Ex.kind (Tm.kon n_3)), .str (Ex.rat (Tm.kon n_3)), .str (Ex.name (Tm.kon n_3)), .int .i64 (Ex.date (Tm.kon n_3)), .sl (List.length (Ex.sub (Tm.kon n_3))) 5 (Ex.deep (Tm.kon n_3)), .int .u8 5, .str (Array.toList #[]), .str (Array.toList #[]), .int .i64 0, .osl 4 5 0 2], .box [.int .u8 7, .str (Array.toList #[]), .str (Array.toList #[]), .int .i64 0, .osl 6 5 0 2]]))) (.all (fun (x : Bool) => True) fun n_2 => .ite n_2 (.ex (fun (x : List UInt8) => eqL [AV.str (Array.toList #[(48 : UInt8)])] [AV.str x] ∧ True) fun n_3 => .all (fun (x : Unit) => True) fun n_4 => .leaf (.ret [.agg [.int .u8 7, .str (Array.toList #[]), .str (Array.toList #[]), .int .i64 0, .osl 6 5 0 2]] [.box [.int .i64 e, .str (Deal.long t), .str (Deal.short t), .str (Deal.ccy t), .str (Deal.name t), .str (Deal.zb t), .str (Deal.zf t)], .box [.int .u8 x.kind, .str x.rat, .str x.name, .int .i64 x.date, .sl x.sub.length 5 (Ex.exG x.sub)], .box [.int .u8 7, .str (Array.toList #[]), .str (Array.toList #[]), .int .i64 0, .osl 6 5 0 2], .box (Ex.cellsD (Tm.kon n)), .arr 2 5 (zj 5 [.int .u8 x.kind, .str x.rat, .str x.name, .int .i64 x.date, .sl x.sub.length 5 (Ex.exG x.sub), .int .u8 (Ex.kind (Tm.kon n)), .str (Ex.rat (Tm.kon n)), .str (Ex.name (Tm.kon n)), .int .i64 (Ex.date (Tm.kon n)), .sl (List.length (Ex.sub (Tm.kon n))) 5 (Ex.deep (Tm.kon n))]), .box [.int .u8 5, .str (Array.toList #[]), .str (Array.toList #[]), .int .i64 0, .osl 4 5 0 2], .box [.int .u8 (Ex.kind (Tm.kon n_3)), .str (Ex.rat (Tm.kon n_3)), .str (Ex.name (Tm.kon n_3)), .int .i64 (Ex.date (Tm.kon n_3)), .sl (List.length (Ex.sub (Tm.kon n_3))) 5 (Ex.deep (Tm.kon n_3)), .int .u8 5, .str (Array.toList #[]), .str (Array.toList #[]), .int .i64 0, .osl 4 5 0 2], .box [.int .u8 7, .str (Array.toList #[]), .str (Array.toList #[]), .int .i64 0, .osl 6 5 0 2]])) (.ex (fun (x : List UInt8) => eqL [AV.str (Array.toList #[(48 : UInt8)])] [AV.str x] ∧ True) fun n_3 => .all (fun (x : Unit) => True) fun n_4 => .leaf (.ret [.agg [.int .u8 7, .str (Array.toList #[]), .str (Array.toList #[]), .int .i64 0, .osl 6 5 0 2]] [.box [.int .i64 e, .str (Deal.long t), .str (Deal.short t), .str (Deal.ccy t), .str (Deal.name t), .str (Deal.zb t), .str (Deal.zf t)], .box [.int .u8 x.kind, .str x.rat, .str x.name, .int .i64 x.date, .sl x.sub.length 5 (Ex.exG x.sub)], .box [.int .u8 7, .str (Array.toList #[]), .str (Array.toList #[]), .int .i64 0, .osl 6 5 0 2], .box (Ex.cellsD (Tm.kon n)), .arr 2 5 (zj 5 [.int .u8 x.kind, .str x.rat, .str x.name, .int .i64 x.date, .sl x.sub.length 5 (Ex.exG x.sub), .int .u8 (Ex.kind (Tm.kon n)), .str (Ex.rat (Tm.kon n)), .str (Ex.name (Tm.kon n)), .int .i64 (Ex.date (Tm.kon n)), .sl (List.length (Ex.sub (Tm.kon n))) 5 (Ex.deep (Tm.kon n))]), .box [.int .u8 5, .str (Array.toList #[]), .str (Array.toList #[]), .int .i64 0, .osl 4 5 0 2], .box [.int .u8 (Ex.kind (Tm.kon n_3)), .str (Ex.rat (Tm.kon n_3)), .str (Ex.name (Tm.kon n_3)), .int .i64 (Ex.date (Tm.kon n_3)), .sl (List.length (Ex.sub (Tm.kon n_3))) 5 (Ex.deep (Tm.kon n_3)), .int .u8 5, .str (Array.toList #[]), .str (Array.toList #[]), .int .i64 0, .osl 4 5 0 2], .box [.int .u8 7, .str (Array.toList #[]), .str (Array.toList #[]), .int .i64 0, .osl 6 5 0 2]])))) (by kernel_rfl) ?_
 simp only [Tree.holds, ze]
 refine ⟨t.zb, ⟨⟨rfl, trivial⟩, trivial⟩, ⟨(), trivial⟩, fun _ _ => ⟨fun h => ?_, fun h => ?_⟩⟩
 ·subst h
  refine ⟨⟨true, trivial⟩, fun _ _ => ⟨fun _ => ?_, fun _ => ?_⟩⟩
  all_goals
   refine ⟨[48], ⟨⟨rfl, trivial⟩, trivial⟩, ⟨(), trivial⟩, fun _ _ => ?_⟩
   exact RetR.zb7 [0] rfl rfl (by show ∀ j, j < 1 → _; decide) rfl hq (LeA.agg ⟨LeA.refl _, LeA.refl _, LeA.refl _, LeA.refl _, Ex.xU (x := Tm.kon [48]) (y := Tm.opx 5 [Tm.kon t.zb, x]) ⟨LeA.refl _, LeA.refl _, LeA.refl _, LeA.refl _, LeA.refl _, LeA.refl _, LeA.refl _, LeA.refl _, LeA.refl _, Ex.xU ⟨LeA.refl _, LeA.refl _, LeA.refl _, LeA.refl _, LeA.refl _, LeA.refl _, LeA.refl _, LeA.refl _, LeA.refl _, Ex.wh x, trivial⟩, trivial⟩, trivial⟩) (by simp [expH, expB, exp1, exp0, ren0, Deal.cells]) rfl
 ·subst h
  refine ⟨⟨true, trivial⟩, fun _ _ => ⟨fun _ => ?_, fun _ => ?_⟩⟩
  all_goals
   refine ⟨[48], ⟨⟨rfl, trivial⟩, trivial⟩, ⟨(), trivial⟩, fun _ _ => ?_⟩
   exact RetR.zb7 [0] rfl rfl (by show ∀ j, j < 1 → _; decide) rfl hq (LeA.agg ⟨LeA.refl _, LeA.refl _, LeA.refl _, LeA.refl _, Ex.xU (x := Tm.kon [48]) (y := Tm.opx 5 [x, Tm.kon t.zb]) ⟨LeA.refl _, LeA.refl _, LeA.refl _, LeA.refl _, LeA.refl _, LeA.refl _, LeA.refl _, LeA.refl _, LeA.refl _, Ex.xU ⟨LeA.refl _, LeA.refl _, LeA.refl _, LeA.refl _, Ex.wh x, LeA.refl _, LeA.refl _, LeA.refl _, LeA.refl _, LeA.refl _, trivial⟩, trivial⟩, trivial⟩) (by simp [expH, expB, exp1, exp0, ren0, Deal.cells]) rfl
def payC : Ctr := ctrT false false (fun p : Deal × Int × Ex × List UInt8 => [.ptr 0 0, p.2.2.1.exA, .str p.2.2.2]) (fun p => [.box (p.1.cells p.2.1)]) (fun _ => True) (fun _ (_ : Unit) => True) (fun p _ => ((Tm.pay p.1 p.2.2.1 p.2.2.2).conD, [.box (p.1.cells p.2.1)]))
theorem zgy : zd Tryz.prog 141 payC := by
 refine wB (fn := Tryz.f141) (c := Tryz.f141.body.getD .skip) rfl rfl rfl (fun h => by cases h) fun p hp O w0 σ0 Q hl0 hq => ?_
 obtain ⟨t, e, x, r⟩ := p
 replace hq := hq () trivial
 simp only at hq
 refine zc.run hmix UX [] 400 (T := .ex (fun (x : List UInt8) => eqL [AV.str r] [AV.str x] ∧ True) fun n => .all (fun (x : Unit) => True) fun n_1 => .leaf (.ret [.agg [.int .u8 2, .str (Deal.short t), .str (Deal.long t), .str (Deal.ccy t), .int .u8 6, .str (Array.toList #[]), .str (Array.toList #[]), .int .i64 0, .osl 3 5 0 2, .int .i64 0, .nils, .nils]] [.box [.int .i64 e, .str (Deal.long t), .str (Deal.short t), .str (Deal.ccy t), .str (Deal.name t), .str (Deal.zb t), .str (Deal.zf t)], .box [.int .u8 x.kind, .str x.rat, .str x.name, .int .i64 x.date, .sl x.sub.length 5 (Ex.exG x.sub)], .box [.int .u8 2, .str (Deal.short t), .str (Deal.long t), .str (Deal.ccy t), .int .u8 6, .str (Array.toList #[]), .str (Array.toList #[]), .int .i64 0, .osl 3 5 0 2, .int .i64 0, .nils, .nils], .arr 2 5 (zj 5 [.int .u8 x.kind, .str x.rat, .str x.name, .int .i64 x.date, .sl x.sub.length 5 (Ex.exG x.sub), .int .u8 (Ex.kind (Tm.kon n)), .str (Ex.rat (Tm.kon n)), .str (Ex.name (Tm.kon n)), .int .i64 (Ex.date (Tm.kon n)), .sl (List.length (Ex.sub (Tm.kon n))) 5 (Ex.deep (Tm.kon n))]), .box [.int .u8 6, .str (Array.toList #[]), .str (Array.toList #[]), .int .i64 0, .osl 3 5 0 2]])) (by kernel_rfl) ?_
 simp only [Tree.holds, ze]
 refine ⟨r, ⟨⟨rfl, trivial⟩, trivial⟩, ⟨(), trivial⟩, fun _ _ => ?_⟩
 exact RetR.zb7 [0] rfl rfl (by show ∀ j, j < 1 → _; decide) rfl hq (LeA.agg ⟨LeA.refl _, LeA.refl _, LeA.refl _, LeA.refl _, LeA.refl _, LeA.refl _, LeA.refl _, LeA.refl _, Ex.zea (x := x) (y := Tm.kon r) ⟨LeA.refl _, LeA.refl _, LeA.refl _, LeA.refl _, Ex.wh x, LeA.refl _, LeA.refl _, LeA.refl _, LeA.refl _, LeA.refl _, trivial⟩, LeA.refl _, LeA.nils, LeA.nils, trivial⟩) (by simp [expH, expB, exp1, exp0, ren0, Deal.cells]) rfl
def onC : Ctr := ctrP false (fun p : Int × Con => [.int .i64 p.1, p.2.conA]) (fun _ => True) (fun _ (_ : Unit) => True) (fun p _ => ((Tm.at_ p.1 p.2).conD, []))
theorem zhg : zd Tryz.prog 140 onC := by
 refine zk (fn := Tryz.f140) (c := Tryz.f140.body.getD .skip) rfl rfl rfl fun p hp O w0 Q hq => ?_
 obtain ⟨d, c⟩ := p
 replace hq := hq () trivial
 simp only at hq
 refine zc.run hmix zy [] 400 (T := .leaf (.ret [.agg [.int .u8 6, .str (Array.toList #[]), .str (Array.toList #[]), .str (Array.toList #[]), .int .u8 0, .str (Array.toList #[]), .str (Array.toList #[]), .int .i64 0, .nils, .int .i64 d, .nils, .osl 2 12 0 1]] [.box (Con.zh c), .box [.int .u8 6, .str (Array.toList #[]), .str (Array.toList #[]), .str (Array.toList #[]), .int .u8 0, .str (Array.toList #[]), .str (Array.toList #[]), .int .i64 0, .nils, .int .i64 d, .nils, .osl 2 12 0 1], .arr 1 12 (zj 12 (Con.zh c))])) (by kernel_rfl) ?_
 simp only [Tree.holds, ze]
 exact RetR.le0 hq (fun h => by cases h) (LeA.agg ⟨LeA.refl _, LeA.refl _, LeA.refl _, LeA.refl _, LeA.refl _, LeA.refl _, LeA.refl _, LeA.refl _, LeA.nils, LeA.refl _, LeA.nils, Con.JD (e := c) ⟨LeA.refl _, LeA.refl _, LeA.refl _, LeA.refl _, LeA.refl _, LeA.refl _, LeA.refl _, LeA.refl _, LeA.refl _, LeA.refl _, LeA.refl _, Con.wh c, trivial⟩, trivial⟩)
end Go.Proofs.Tryz
end

/- Templates: deals, plain. -/
section
namespace Go.Nov
open Go.Sx
namespace Tm
theorem Wt {d : Deal} {x : Ex} {r : List UInt8} (h : fits d) : (pay d x r).big ≤ 1000 + x.size + x.z8 + r.length := by
 obtain ⟨h1, h2, h3, h4, h5, h6⟩ := h
 simp only [pay, opx, kon, Con.big, Con.bigs, Ex.size, Ex.zw, Ex.z8, Ex.jt, List.length_nil]
 omega
theorem Wa {d : Deal} {day : Int} (h : fits d) : (fwd d day).big < 100000 := by
 have h' := h
 obtain ⟨h1, h2, h3, h4, h5, h6⟩ := h
 have := Wt (x := opx 5 [spot d.name, kon d.zb]) (r := d.zf) h'
 simp only [fwd, at_, Con.big, Con.bigs, Ex.size, Ex.zw, Ex.z8, Ex.jt, List.length_nil, opx, spot, kon] at this ⊢
 omega
theorem VL {k n : List UInt8} {put : Bool} : (over k (spot n) put).size + (over k (spot n) put).z8 ≤ 20 + k.length + n.length := by
 cases put <;> simp only [over, opx, spot, kon, Ex.size, Ex.zw, Ex.z8, Ex.jt, List.length_nil, List.length_cons, if_pos, Bool.false_eq_true, if_false] <;> omega
theorem Ws {d : Deal} {day : Int} {put : Bool} (h : fits d) : (pff d day put).big < 100000 := by
 have h' := h
 obtain ⟨h1, h2, h3, h4, h5, h6⟩ := h
 have := Wt (x := over d.zb (spot d.name) put) (r := d.zf) h'
 have := VL (k := d.zb) (n := d.name) (put := put)
 simp only [pff, at_, Con.big, Con.bigs, Ex.size, Ex.zw, Ex.z8, Ex.jt, List.length_nil]
 omega
theorem uY {d : Deal} {ch : List UInt8} {days : List Int} {put : Bool} (h : fits d) (hc : ch.length ≤ 200) (hd : days.length ≤ 200) : (opt d ch days put).big < 100000 := by
 have h' := h
 obtain ⟨h1, h2, h3, h4, h5, h6⟩ := h
 have := Wt (x := over d.zb (spot d.name) put) (r := d.zf) h'
 have := VL (k := d.zb) (n := d.name) (put := put)
 simp only [opt, call, Con.big, Con.bigs, Ex.size, Ex.zw, Ex.z8, Ex.jt, List.length_nil]
 omega
theorem Vd : zero.big < 100000 := by decide +kernel
end Tm
end Go.Nov
end

/- Templates: deals. -/
section
set_option maxRecDepth 100000
open Go Go.Sx Go.Proofs Go.Nov
namespace Go.Proofs.Tryz
attribute [local simp] eqKV eqA eqA0 eqH eqB eqL eqL0
def opS : Ctr := { opC with sinks := true }
theorem zd9 : zd Tryz.prog 142 opS := zh9.sink
def zb9 : Ctr := { zfh with sinks := true }
theorem WT : zd Tryz.prog 152 zb9 := zem.sink
def payS : Ctr := { payC with sinks := true }
theorem XR : zd Tryz.prog 141 payS := zgy.sink
def onS : Ctr := { onC with sinks := true }
theorem zcp : zd Tryz.prog 140 onS := zhg.sink
def zfw : Ctr := { y9 with sinks := true }
theorem zam : zd Tryz.prog 134 zfw := zh7.sink
def zag : Ctr := { zc4 with sinks := true }
theorem Y6 : zd Tryz.prog 134 zag := zge.sink
noncomputable def GBe : Nat → Option Ctr := fun f => if f = 156 then some (XZ) else none
theorem zgm : ∀ g c, GBe g = some c → zd Tryz.prog g c := okIf YJ (zx)
noncomputable def KG : Ctr := inlC Tryz.prog GBe 100 Tryz.f138
theorem Jn : zd Tryz.prog 138 KG := xA hmix zgm rfl rfl
noncomputable def GDo1 : Nat → Option Ctr := fun f => if f = 36 then some (xq) else if f = 134 then some (zfw) else if f = 216 then some (Yz) else none
theorem zf3 : ∀ g c, GDo1 g = some c → zd Tryz.prog g c := okIf QY (okIf zam (okIf Zn (zx)))
noncomputable def GDo2 : Nat → Option Ctr := fun f => if f = 36 then some (xq) else if f = 134 then some (zag) else if f = 216 then some (Yz) else none
theorem zdp : ∀ g c, GDo2 g = some c → zd Tryz.prog g c := okIf QY (okIf Y6 (okIf Zn (zx)))
noncomputable def zfe : Ctr := inlC Tryz.prog GDo1 100 Tryz.f139
theorem zac : zd Tryz.prog 139 zfe := xA hmix zf3 rfl rfl
noncomputable def zfd : Ctr := inlC Tryz.prog GDo2 100 Tryz.f139
theorem UN : zd Tryz.prog 139 zfd := xA hmix zdp rfl rfl
noncomputable def zcu : Ctr := { zfd with sinks := true }
theorem Us : zd Tryz.prog 139 zcu := UN.sink
noncomputable def GFw : Nat → Option Ctr := fun f => if f = 138 then some (KG) else if f = 139 then some (zfe) else if f = 142 then some (opS) else if f = 144 then some (konC) else if f = 143 then some (UW) else if f = 152 then some (zb9) else if f = 141 then some (payS) else if f = 140 then some (onS) else none
theorem zd4 : ∀ g c, GFw g = some c → zd Tryz.prog g c := okIf Jn (okIf zac (okIf zd9 (okIf Xa (okIf XV (okIf WT (okIf XR (okIf zcp (zx))))))))
noncomputable def GFo2 : Nat → Option Ctr := fun f => if f = 138 then some (KG) else if f = 139 then some (zcu) else if f = 142 then some (opS) else if f = 144 then some (konC) else if f = 143 then some (UW) else if f = 152 then some (zb9) else if f = 141 then some (payS) else if f = 140 then some (onS) else none
theorem ze6 : ∀ g c, GFo2 g = some c → zd Tryz.prog g c := okIf Jn (okIf Us (okIf zd9 (okIf Xa (okIf XV (okIf WT (okIf XR (okIf zcp (zx))))))))
theorem JU (a b : List UInt8) : eqG 2 1 (zj 1 [.str a, .str b]) (ratG [a, b]) := by
 intro j o hj ho
 rcases (show j = 0 ∨ j = 1 by omega) with rfl | rfl <;> rcases (show o = 0 by omega) with rfl <;> rfl
theorem zT (e : Ex) : eqA (exD e) e.exA := by
 simp only [exD, Ex.exA, Ex.exS, eqA]
 exact ⟨⟨rfl, rfl⟩, rfl, rfl, ⟨rfl, rfl⟩, ⟨rfl, rfl, Ex.z9 e⟩, trivial⟩
theorem xQ {d : Deal} (h : Tm.fits d) : ∀ r ∈ [d.zb, d.zf], r.length < 2 ^ 40 := by
 obtain ⟨h1, h2, h3, h4, h5, h6⟩ := h
 intro r hr
 rcases List.mem_cons.1 hr with rfl | hr
 ·omega
 ·rcases List.mem_cons.1 hr with rfl | hr
  ·omega
  ·cases hr
theorem zero_eq {n : Int} : eqA2 (.tup [.agg [.int .u8 0, .str [], .str [], .str [], .int .u8 0, .str [], .str [], .int .i64 0, .nils, .int .i64 0, .nils, .nils], .int .i64 n]) (.tup [Tm.zero.conD, .int .i64 n]) := by
 simp [eqA2, eqL1, Tm.zero, Con.conD, Con.outD, Con.dayS, Ex.exS, Con.kind, Con.src, Con.dst, Con.name, Con.x, Con.date, Con.days, Con.sub, Ex.kind, Ex.rat, Ex.name, Ex.date, Ex.sub]
def yv : Ctr := ctrP false (fun p : Deal × Int => [p.1.av, .int .i64 p.2]) (fun p => Tm.fits p.1) (fun p (_ : Unit) => True) (fun p _ => (.tup [(Tm.out (Tm.res p.1 (Tm.fwd p.1 p.2)) (Tm.fwd p.1 p.2)).conD, .int .i64 (Tm.res p.1 (Tm.fwd p.1 p.2))], []))
theorem kC {d : Deal} {c : Con} {Q : AV × Heap → Prop} (hq : Q (.tup [(Tm.out (Tm.res d c) c).conD, .int .i64 (Tm.res d c)], [])) (h : ¬ Tm.first 0 [d.zb, d.zf] = 0) : Q (.tup [Tm.zero.conD, .int .i64 (Tm.first 0 [d.zb, d.zf])], []) := by
 unfold Tm.res Tm.out at hq
 rw [if_neg h, if_neg h] at hq
 exact hq
theorem xb {d : Deal} {c : Con} {Q : AV × Heap → Prop} (hq : Q (.tup [(Tm.out (Tm.res d c) c).conD, .int .i64 (Tm.res d c)], [])) (h : Tm.first 0 [d.zb, d.zf] = 0) (hc : ¬ c.errC = 0) : Q (.tup [Tm.zero.conD, .int .i64 c.errC], []) := by
 unfold Tm.res Tm.out at hq
 rw [if_pos h, if_neg hc] at hq
 exact hq
theorem y7 {d : Deal} {c : Con} {Q : AV × Heap → Prop} (hq : Q (.tup [(Tm.out (Tm.res d c) c).conD, .int .i64 (Tm.res d c)], [])) (h : Tm.first 0 [d.zb, d.zf] = 0) (hc : c.errC = 0) : Q (.tup [c.conD, .int .i64 0], []) := by
 unfold Tm.res Tm.out at hq
 rw [if_pos h, if_pos hc, hc] at hq
 exact hq
theorem Kq : zd Tryz.prog 55 yv := by
 refine zk (fn := Tryz.f55) (c := Tryz.f55.body.getD .skip) rfl rfl rfl fun p hp O w0 Q hq => ?_
 obtain ⟨d, day⟩ := p
 replace hq := hq () trivial
 replace hp : Tm.fits d := hp
 simp only at hq
 have hbig := Tm.Wa (day := day) hp
 refine zc.run hmix zd4 [] 400 (T := .ex (fun (x : Deal × Int × List (List UInt8)) => eqL [AV.ptr 0 0, AV.osl 1 1 0 2] [AV.ptr 0 0, AV.osl 1 1 0 x.2.2.length] ∧ eqH [.box [AV.int .i64 0, AV.str (Deal.long d), AV.str (Deal.short d), AV.str (Deal.ccy d), AV.str (Deal.name d), AV.str (Deal.zb d), AV.str (Deal.zf d)], .arr 2 1 (zj 1 [AV.str (Deal.zb d), AV.str (Deal.zf d)])] [.box [AV.int .i64 x.2.1, AV.str (Deal.long x.1), AV.str (Deal.short x.1), AV.str (Deal.ccy x.1), AV.str (Deal.name x.1), AV.str (Deal.zb x.1), AV.str (Deal.zf x.1)], .arr x.2.2.length 1 (ratG x.2.2)] ∧ 2 = 2 ∧ x.2.2.length < 1099511627776 ∧ ∀ (r : List UInt8), r ∈ x.2.2 → r.length < 1099511627776) fun n => .all (fun (x : Unit) => True) fun n_1 => .ex (fun (x : Deal × Int) => eqL [AV.ptr 0 0] [AV.ptr 0 0] ∧ eqH [.box [AV.int .i64 (Tm.first n.2.1 n.2.2), AV.str (Deal.long n.1), AV.str (Deal.short n.1), AV.str (Deal.ccy n.1), AV.str (Deal.name n.1), AV.str (Deal.zb n.1), AV.str (Deal.zf n.1)]] [.box [AV.int .i64 x.2, AV.str (Deal.long x.1), AV.str (Deal.short x.1), AV.str (Deal.ccy x.1), AV.str (Deal.name x.1), AV.str (Deal.zb x.1), AV.str (Deal.zf x.1)]] ∧ 1 = 1 ∧ True) fun n_2 => .all (fun (x : Unit) => True) fun n_3 => .ex (fun (x : List UInt8) => eqL [AV.str (Deal.zb d)] [AV.str x] ∧ True) fun n_4 => .all (fun (x : Unit) => True) fun n_5 => .ex (fun (x : Int × List Ex) => eqL [AV.int .u8 5, AV.sl 2 5 (zi (zj 5 [AV.int .u8 (Ex.kind (Tm.spot (Deal.name n_2.1))), AV.str (Ex.rat (Tm.spot (Deal.name n_2.1))), AV.str (Ex.name (Tm.spot (Deal.name n_2.1))), AV.int .i64 (Ex.date (Tm.spot (Deal.name n_2.1))), AV.sl (List.length (Ex.sub (Tm.spot (Deal.name n_2.1)))) 5 (Ex.deep (Tm.spot (Deal.name n_2.1))), AV.int .u8 (Ex.kind (Tm.kon n_4)), AV.str (Ex.rat (Tm.kon n_4)), AV.str (Ex.name (Tm.kon n_4)), AV.int .i64 (Ex.date (Tm.kon n_4)), AV.sl (List.length (Ex.sub (Tm.kon n_4))) 5 (Ex.deep (Tm.kon n_4))]) 0)] [AV.int .u8 x.1, AV.sl x.2.length 5 (Ex.exG x.2)] ∧ True) fun n_6 => .all (fun (x : Unit) => True) fun n_7 => .ex (fun (x : Deal × Int × Ex × List UInt8) => eqL [AV.ptr 0 0, (exD (Tm.opx n_6.1 n_6.2)), AV.str (Deal.zf d)] [AV.ptr 0 0, x.2.2.1.exA, AV.str x.2.2.2] ∧ eqH [.box [AV.int .i64 n_2.2, AV.str (Deal.long n_2.1), AV.str (Deal.short n_2.1), AV.str (Deal.ccy n_2.1), AV.str (Deal.name n_2.1), AV.str (Deal.zb n_2.1), AV.str (Deal.zf n_2.1)]] [.box [AV.int .i64 x.2.1, AV.str (Deal.long x.1), AV.str (Deal.short x.1), AV.str (Deal.ccy x.1), AV.str (Deal.name x.1), AV.str (Deal.zb x.1), AV.str (Deal.zf x.1)]] ∧ 1 = 1 ∧ True) fun n_8 => .all (fun (x : Unit) => True) fun n_9 => .ex (fun (x : Int × Con) => eqL [AV.int .i64 day, (Con.conD (Tm.pay n_8.1 n_8.2.2.1 n_8.2.2.2))] [AV.int .i64 x.1, (Con.conA x.2)] ∧ True) fun n_10 => .all (fun (x : Unit) => True) fun n_11 => .ite (decide (n_8.2.1 = 0)) (.ex (fun (x : Con) => eqL [(Con.conD (Tm.at_ n_10.1 n_10.2))] [(Con.conA x)] ∧ Con.big x < 1099511627776 ∧ Con.nodes x ≤ 1000000) fun n_12 => .all (fun (r : Int) => r = Con.errC n_12) fun n_13 => .ite (decide (n_8.2.1 = 0)) (.ite (!decide (n_13 = 0)) (.leaf (.ret [.agg [.int .u8 0, .str (Array.toList #[]), .str (Array.toList #[]), .str (Array.toList #[]), .int .u8 0, .str (Array.toList #[]), .str (Array.toList #[]), .int .i64 0, .nils, .int .i64 0, .nils, .nils], .int .i64 n_13] [.box [.str (Deal.long d), .str (Deal.short d), .str (Deal.ccy d), .str (Deal.name d), .str (Deal.zb d), .str (Deal.zf d)], .box [.int .u8 0, .str (Array.toList #[]), .str (Array.toList #[]), .str (Array.toList #[]), .int .u8 0, .str (Array.toList #[]), .str (Array.toList #[]), .int .i64 0, .nils, .int .i64 0, .nils, .nils], .box [.str (Deal.long d), .str (Deal.short d), .str (Deal.ccy d), .str (Deal.name d), .str (Deal.zb d), .str (Deal.zf d)], .box [.int .i64 n_13, .str (Deal.long n_8.1), .str (Deal.short n_8.1), .str (Deal.ccy n_8.1), .str (Deal.name n_8.1), .str (Deal.zb n_8.1), .str (Deal.zf n_8.1)], .arr n.2.2.length 1 (ratG n.2.2), .dead, .box (Con.zg (Tm.at_ n_10.1 n_10.2)), .box [.int .u8 0, .str (Array.toList #[]), .str (Array.toList #[]), .str (Array.toList #[]), .int .u8 0, .str (Array.toList #[]), .str (Array.toList #[]), .int .i64 0, .nils, .int .i64 0, .nils, .nils]])) (.ex (fun (x : Con) => eqL [(Con.conD (Tm.at_ n_10.1 n_10.2))] [(Con.conA x)] ∧ Con.big x < 274877906944) fun n_14 => .all (fun (x : Unit) => True) fun n_15 => .leaf (.ret [(Con.conD n_14), .int .i64 0] [.box [.str (Deal.long d), .str (Deal.short d), .str (Deal.ccy d), .str (Deal.name d), .str (Deal.zb d), .str (Deal.zf d)], .box (Con.zg n_14), .box [.str (Deal.long d), .str (Deal.short d), .str (Deal.ccy d), .str (Deal.name d), .str (Deal.zb d), .str (Deal.zf d)], .box [.int .i64 n_13, .str (Deal.long n_8.1), .str (Deal.short n_8.1), .str (Deal.ccy n_8.1), .str (Deal.name n_8.1), .str (Deal.zb n_8.1), .str (Deal.zf n_8.1)], .arr n.2.2.length 1 (ratG n.2.2), .dead, .box (Con.zg (Tm.at_ n_10.1 n_10.2)), .box (Con.zg n_14)]))) (.ite (!decide (n_8.2.1 = 0)) (.leaf (.ret [.agg [.int .u8 0, .str (Array.toList #[]), .str (Array.toList #[]), .str (Array.toList #[]), .int .u8 0, .str (Array.toList #[]), .str (Array.toList #[]), .int .i64 0, .nils, .int .i64 0, .nils, .nils], .int .i64 n_8.2.1] [.box [.str (Deal.long d), .str (Deal.short d), .str (Deal.ccy d), .str (Deal.name d), .str (Deal.zb d), .str (Deal.zf d)], .box [.int .u8 0, .str (Array.toList #[]), .str (Array.toList #[]), .str (Array.toList #[]), .int .u8 0, .str (Array.toList #[]), .str (Array.toList #[]), .int .i64 0, .nils, .int .i64 0, .nils, .nils], .box [.str (Deal.long d), .str (Deal.short d), .str (Deal.ccy d), .str (Deal.name d), .str (Deal.zb d), .str (Deal.zf d)], .box [.int .i64 n_8.2.1, .str (Deal.long n_8.1), .str (Deal.short n_8.1), .str (Deal.ccy n_8.1), .str (Deal.name n_8.1), .str (Deal.zb n_8.1), .str (Deal.zf n_8.1)], .arr n.2.2.length 1 (ratG n.2.2), .dead, .box (Con.zg (Tm.at_ n_10.1 n_10.2)), .box [.int .u8 0, .str (Array.toList #[]), .str (Array.toList #[]), .str (Array.toList #[]), .int .u8 0, .str (Array.toList #[]), .str (Array.toList #[]), .int .i64 0, .nils, .int .i64 0, .nils, .nils]])) (.ex (fun (x : Con) => eqL [(Con.conD (Tm.at_ n_10.1 n_10.2))] [(Con.conA x)] ∧ Con.big x < 274877906944) fun n_14 => .all (fun (x : Unit) => True) fun n_15 => .leaf (.ret [(Con.conD n_14), .int .i64 0] [.box [.str (Deal.long d), .str (Deal.short d), .str (Deal.ccy d), .str (Deal.name d), .str (Deal.zb d), .str (Deal.zf d)], .box (Con.zg n_14), .box [.str (Deal.long d), .str (Deal.short d), .str (Deal.ccy d), .str (Deal.name d), .str (Deal.zb d), .str (Deal.zf d)], .box [.int .i64 n_8.2.1, .str (Deal.long n_8.1), .str (Deal.short n_8.1), .str (Deal.ccy n_8.1), .str (Deal.name n_8.1), .str (Deal.zb n_8.1), .str (Deal.zf n_8.1)], .arr n.2.2.length 1 (ratG n.2.2), .dead, .box (Con.zg (Tm.at_ n_10.1 n_10.2)), .box (Con.zg n_14)])))) (.ite (!decide (n_8.2.1 = 0)) (.leaf (.ret [.agg [.int .u8 0, .str (Array.toList #[]), .str (Array.toList #[]), .str (Array.toList #[]), .int .u8 0, .str (Array.toList #[]), .str (Array.toList #[]), .int .i64 0, .nils, .int .i64 0, .nils, .nils], .int .i64 n_8.2.1] [.box [.str (Deal.long d), .str (Deal.short d), .str (Deal.ccy d), .str (Deal.name d), .str (Deal.zb d), .str (Deal.zf d)], .box [.int .u8 0, .str (Array.toList #[]), .str (Array.toList #[]), .str (Array.toList #[]), .int .u8 0, .str (Array.toList #[]), .str (Array.toList #[]), .int .i64 0, .nils, .int .i64 0, .nils, .nils], .box [.str (Deal.long d), .str (Deal.short d), .str (Deal.ccy d), .str (Deal.name d), .str (Deal.zb d), .str (Deal.zf d)], .box [.int .i64 n_8.2.1, .str (Deal.long n_8.1), .str (Deal.short n_8.1), .str (Deal.ccy n_8.1), .str (Deal.name n_8.1), .str (Deal.zb n_8.1), .str (Deal.zf n_8.1)], .arr n.2.2.length 1 (ratG n.2.2), .dead, .box (Con.zg (Tm.at_ n_10.1 n_10.2)), .box [.int .u8 0, .str (Array.toList #[]), .str (Array.toList #[]), .str (Array.toList #[]), .int .u8 0, .str (Array.toList #[]), .str (Array.toList #[]), .int .i64 0, .nils, .int .i64 0, .nils, .nils]])) (.ex (fun (x : Con) => eqL [(Con.conD (Tm.at_ n_10.1 n_10.2))] [(Con.conA x)] ∧ Con.big x < 274877906944) fun n_12 => .all (fun (x : Unit) => True) fun n_13 => .leaf (.ret [(Con.conD n_12), .int .i64 0] [.box [.str (Deal.long d), .str (Deal.short d), .str (Deal.ccy d), .str (Deal.name d), .str (Deal.zb d), .str (Deal.zf d)], .box (Con.zg n_12), .box [.str (Deal.long d), .str (Deal.short d), .str (Deal.ccy d), .str (Deal.name d), .str (Deal.zb d), .str (Deal.zf d)], .box [.int .i64 n_8.2.1, .str (Deal.long n_8.1), .str (Deal.short n_8.1), .str (Deal.ccy n_8.1), .str (Deal.name n_8.1), .str (Deal.zb n_8.1), .str (Deal.zf n_8.1)], .arr n.2.2.length 1 (ratG n.2.2), .dead, .box (Con.zg (Tm.at_ n_10.1 n_10.2)), .box (Con.zg n_12)])))) (by kernel_rfl) ?_
 simp only [Tree.holds, ze]
 refine ⟨(d, 0, [d.zb, d.zf]), ⟨by simp, by simp [Deal.cells, JU], trivial, by show 2 < 2 ^ 40; decide, xQ hp⟩, ⟨(), trivial⟩, fun _ _ => ?_⟩
 refine ⟨(d, Tm.first 0 [d.zb, d.zf]), ⟨by simp, by simp [Deal.cells], trivial, trivial⟩, ⟨(), trivial⟩, fun _ _ => ?_⟩
 refine ⟨d.zb, ⟨by simp, trivial⟩, ⟨(), trivial⟩, fun _ _ => ?_⟩
 refine ⟨(5, [Tm.spot d.name, Tm.kon d.zb]), ⟨⟨⟨rfl, rfl⟩, ⟨rfl, rfl, Ex.zdv _ _⟩, trivial⟩, trivial⟩, ⟨(), trivial⟩, fun _ _ => ?_⟩
 refine ⟨(d, Tm.first 0 [d.zb, d.zf], Tm.opx 5 [Tm.spot d.name, Tm.kon d.zb], d.zf), ⟨⟨⟨rfl, rfl⟩, zT _, rfl, trivial⟩, by simp [Deal.cells], trivial, trivial⟩, ⟨(), trivial⟩, fun _ _ => ?_⟩
 refine ⟨(day, Tm.pay d (Tm.opx 5 [Tm.spot d.name, Tm.kon d.zb]) d.zf), ⟨⟨⟨rfl, rfl⟩, zD _, trivial⟩, trivial⟩, ⟨(), trivial⟩, fun _ _ => ?_⟩
 obtain ⟨c, hc⟩ : ∃ c, Tm.fwd d day = c := ⟨_, rfl⟩
 have hn : c.nodes ≤ 1000000 := by rw [← hc]; show (Tm.fwd d day).nodes ≤ _; simp [Tm.fwd, Tm.at_, Tm.pay, Con.nodes, Con.qH]
 change (_ → ∃ n_12, _) ∧ _
 simp only [← show Tm.fwd d day = Tm.at_ day (Tm.pay d (Tm.opx 5 [Tm.spot d.name, Tm.kon d.zb]) d.zf) from rfl]
 rw [hc] at hq hbig
 simp only [hc]
 have hq1 := kC hq
 have hq2 := xb hq
 have hq3 := y7 hq
 clear hq
 generalize Tm.first 0 [d.zb, d.zf] = e at hq1 hq2 hq3 ⊢
 refine ⟨fun h => ?_, fun h => ?_⟩
 ·have he := of_decide_eq_true h
  refine ⟨c, ⟨⟨zD c, trivial⟩, by omega, hn⟩, ⟨_, rfl⟩, ?_⟩
  rintro _ rfl
  refine ⟨fun _ => ⟨fun h1 => ?_, fun h1 => ?_⟩, fun h1 => absurd (h.symm.trans h1) (by decide)⟩
  ·exact RetR.out0 (hq2 he (by simpa using h1)) (fun h => by cases h) zero_eq
  ·refine ⟨c, ⟨⟨zD c, trivial⟩, by omega⟩, ⟨(), trivial⟩, fun _ _ => ?_⟩
   exact RetR.le0 (hq3 he (by simpa using h1)) (fun h => by cases h) (LeA.refl _)
 ·have he := of_decide_eq_false h
  refine ⟨fun _ => RetR.out0 (hq1 he) (fun h => by cases h) zero_eq, fun h1 => absurd h1 (by simp [he])⟩
def uS : Ctr := ctrP false (fun p : Deal × Int × Bool => [p.1.av, .int .i64 p.2.1, .bool p.2.2]) (fun p => Tm.fits p.1) (fun p (_ : Unit) => True) (fun p _ => (.tup [(Tm.out (Tm.res p.1 (Tm.pff p.1 p.2.1 p.2.2)) (Tm.pff p.1 p.2.1 p.2.2)).conD, .int .i64 (Tm.res p.1 (Tm.pff p.1 p.2.1 p.2.2))], []))
theorem U1 : zd Tryz.prog 57 uS := by
 refine zk (fn := Tryz.f57) (c := Tryz.f57.body.getD .skip) rfl rfl rfl fun p hp O w0 Q hq => ?_
 obtain ⟨d, day, put⟩ := p
 replace hq := hq () trivial
 replace hp : Tm.fits d := hp
 simp only at hq
 have hbig := Tm.Ws (day := day) (put := put) hp
 refine zc.run hmix zd4 [] 400 (T := .ex (fun (x : Deal × Int × List (List UInt8)) => eqL [AV.ptr 0 0, AV.osl 1 1 0 2] [AV.ptr 0 0, AV.osl 1 1 0 x.2.2.length] ∧ eqH [.box [AV.int .i64 0, AV.str (Deal.long d), AV.str (Deal.short d), AV.str (Deal.ccy d), AV.str (Deal.name d), AV.str (Deal.zb d), AV.str (Deal.zf d)], .arr 2 1 (zj 1 [AV.str (Deal.zb d), AV.str (Deal.zf d)])] [.box [AV.int .i64 x.2.1, AV.str (Deal.long x.1), AV.str (Deal.short x.1), AV.str (Deal.ccy x.1), AV.str (Deal.name x.1), AV.str (Deal.zb x.1), AV.str (Deal.zf x.1)], .arr x.2.2.length 1 (ratG x.2.2)] ∧ 2 = 2 ∧ x.2.2.length < 1099511627776 ∧ ∀ (r : List UInt8), r ∈ x.2.2 → r.length < 1099511627776) fun n => .all (fun (x : Unit) => True) fun n_1 => .ex (fun (x : Deal × Int) => eqL [AV.ptr 0 0] [AV.ptr 0 0] ∧ eqH [.box [AV.int .i64 (Tm.first n.2.1 n.2.2), AV.str (Deal.long n.1), AV.str (Deal.short n.1), AV.str (Deal.ccy n.1), AV.str (Deal.name n.1), AV.str (Deal.zb n.1), AV.str (Deal.zf n.1)]] [.box [AV.int .i64 x.2, AV.str (Deal.long x.1), AV.str (Deal.short x.1), AV.str (Deal.ccy x.1), AV.str (Deal.name x.1), AV.str (Deal.zb x.1), AV.str (Deal.zf x.1)]] ∧ 1 = 1 ∧ True) fun n_2 => .all (fun (x : Unit) => True) fun n_3 => .ex (fun (x : Deal × Int × Ex × Bool) => eqL [AV.ptr 0 0, (exD (Tm.spot (Deal.name n_2.1))), AV.bool put] [AV.ptr 0 0, x.2.2.1.exA, AV.bool x.2.2.2] ∧ eqH [.box [AV.int .i64 n_2.2, AV.str (Deal.long n_2.1), AV.str (Deal.short n_2.1), AV.str (Deal.ccy n_2.1), AV.str (Deal.name n_2.1), AV.str (Deal.zb n_2.1), AV.str (Deal.zf n_2.1)]] [.box [AV.int .i64 x.2.1, AV.str (Deal.long x.1), AV.str (Deal.short x.1), AV.str (Deal.ccy x.1), AV.str (Deal.name x.1), AV.str (Deal.zb x.1), AV.str (Deal.zf x.1)]] ∧ 1 = 1 ∧ True) fun n_4 => .all (fun (x : Unit) => True) fun n_5 => .ex (fun (x : Deal × Int × Ex × List UInt8) => eqL [AV.ptr 0 0, (exD (Tm.over (Deal.zb n_4.1) n_4.2.2.1 n_4.2.2.2)), AV.str (Deal.zf d)] [AV.ptr 0 0, x.2.2.1.exA, AV.str x.2.2.2] ∧ eqH [.box [AV.int .i64 n_4.2.1, AV.str (Deal.long n_4.1), AV.str (Deal.short n_4.1), AV.str (Deal.ccy n_4.1), AV.str (Deal.name n_4.1), AV.str (Deal.zb n_4.1), AV.str (Deal.zf n_4.1)]] [.box [AV.int .i64 x.2.1, AV.str (Deal.long x.1), AV.str (Deal.short x.1), AV.str (Deal.ccy x.1), AV.str (Deal.name x.1), AV.str (Deal.zb x.1), AV.str (Deal.zf x.1)]] ∧ 1 = 1 ∧ True) fun n_6 => .all (fun (x : Unit) => True) fun n_7 => .ex (fun (x : Int × Con) => eqL [AV.int .i64 day, (Con.conD (Tm.pay n_6.1 n_6.2.2.1 n_6.2.2.2))] [AV.int .i64 x.1, (Con.conA x.2)] ∧ True) fun n_8 => .all (fun (x : Unit) => True) fun n_9 => .ite (decide (n_6.2.1 = 0)) (.ex (fun (x : Con) => eqL [(Con.conD (Tm.at_ n_8.1 n_8.2))] [(Con.conA x)] ∧ Con.big x < 1099511627776 ∧ Con.nodes x ≤ 1000000) fun n_10 => .all (fun (r : Int) => r = Con.errC n_10) fun n_11 => .ite (decide (n_6.2.1 = 0)) (.ite (!decide (n_11 = 0)) (.leaf (.ret [.agg [.int .u8 0, .str (Array.toList #[]), .str (Array.toList #[]), .str (Array.toList #[]), .int .u8 0, .str (Array.toList #[]), .str (Array.toList #[]), .int .i64 0, .nils, .int .i64 0, .nils, .nils], .int .i64 n_11] [.box [.str (Deal.long d), .str (Deal.short d), .str (Deal.ccy d), .str (Deal.name d), .str (Deal.zb d), .str (Deal.zf d)], .box [.int .u8 0, .str (Array.toList #[]), .str (Array.toList #[]), .str (Array.toList #[]), .int .u8 0, .str (Array.toList #[]), .str (Array.toList #[]), .int .i64 0, .nils, .int .i64 0, .nils, .nils], .box [.str (Deal.long d), .str (Deal.short d), .str (Deal.ccy d), .str (Deal.name d), .str (Deal.zb d), .str (Deal.zf d)], .box [.int .i64 n_11, .str (Deal.long n_6.1), .str (Deal.short n_6.1), .str (Deal.ccy n_6.1), .str (Deal.name n_6.1), .str (Deal.zb n_6.1), .str (Deal.zf n_6.1)], .arr n.2.2.length 1 (ratG n.2.2), .box (Con.zg (Tm.at_ n_8.1 n_8.2)), .box [.int .u8 0, .str (Array.toList #[]), .str (Array.toList #[]), .str (Array.toList #[]), .int .u8 0, .str (Array.toList #[]), .str (Array.toList #[]), .int .i64 0, .nils, .int .i64 0, .nils, .nils]])) (.ex (fun (x : Con) => eqL [(Con.conD (Tm.at_ n_8.1 n_8.2))] [(Con.conA x)] ∧ Con.big x < 274877906944) fun n_12 => .all (fun (x : Unit) => True) fun n_13 => .leaf (.ret [(Con.conD n_12), .int .i64 0] [.box [.str (Deal.long d), .str (Deal.short d), .str (Deal.ccy d), .str (Deal.name d), .str (Deal.zb d), .str (Deal.zf d)], .box (Con.zg n_12), .box [.str (Deal.long d), .str (Deal.short d), .str (Deal.ccy d), .str (Deal.name d), .str (Deal.zb d), .str (Deal.zf d)], .box [.int .i64 n_11, .str (Deal.long n_6.1), .str (Deal.short n_6.1), .str (Deal.ccy n_6.1), .str (Deal.name n_6.1), .str (Deal.zb n_6.1), .str (Deal.zf n_6.1)], .arr n.2.2.length 1 (ratG n.2.2), .box (Con.zg (Tm.at_ n_8.1 n_8.2)), .box (Con.zg n_12)]))) (.ite (!decide (n_6.2.1 = 0)) (.leaf (.ret [.agg [.int .u8 0, .str (Array.toList #[]), .str (Array.toList #[]), .str (Array.toList #[]), .int .u8 0, .str (Array.toList #[]), .str (Array.toList #[]), .int .i64 0, .nils, .int .i64 0, .nils, .nils], .int .i64 n_6.2.1] [.box [.str (Deal.long d), .str (Deal.short d), .str (Deal.ccy d), .str (Deal.name d), .str (Deal.zb d), .str (Deal.zf d)], .box [.int .u8 0, .str (Array.toList #[]), .str (Array.toList #[]), .str (Array.toList #[]), .int .u8 0, .str (Array.toList #[]), .str (Array.toList #[]), .int .i64 0, .nils, .int .i64 0, .nils, .nils], .box [.str (Deal.long d), .str (Deal.short d), .str (Deal.ccy d), .str (Deal.name d), .str (Deal.zb d), .str (Deal.zf d)], .box [.int .i64 n_6.2.1, .str (Deal.long n_6.1), .str (Deal.short n_6.1), .str (Deal.ccy n_6.1), .str (Deal.name n_6.1), .str (Deal.zb n_6.1), .str (Deal.zf n_6.1)], .arr n.2.2.length 1 (ratG n.2.2), .box (Con.zg (Tm.at_ n_8.1 n_8.2)), .box [.int .u8 0, .str (Array.toList #[]), .str (Array.toList #[]), .str (Array.toList #[]), .int .u8 0, .str (Array.toList #[]), .str (Array.toList #[]), .int .i64 0, .nils, .int .i64 0, .nils, .nils]])) (.ex (fun (x : Con) => eqL [(Con.conD (Tm.at_ n_8.1 n_8.2))] [(Con.conA x)] ∧ Con.big x < 274877906944) fun n_12 => .all (fun (x : Unit) => True) fun n_13 => .leaf (.ret [(Con.conD n_12), .int .i64 0] [.box [.str (Deal.long d), .str (Deal.short d), .str (Deal.ccy d), .str (Deal.name d), .str (Deal.zb d), .str (Deal.zf d)], .box (Con.zg n_12), .box [.str (Deal.long d), .str (Deal.short d), .str (Deal.ccy d), .str (Deal.name d), .str (Deal.zb d), .str (Deal.zf d)], .box [.int .i64 n_6.2.1, .str (Deal.long n_6.1), .str (Deal.short n_6.1), .str (Deal.ccy n_6.1), .str (Deal.name n_6.1), .str (Deal.zb n_6.1), .str (Deal.zf n_6.1)], .arr n.2.2.length 1 (ratG n.2.2), .box (Con.zg (Tm.at_ n_8.1 n_8.2)), .box (Con.zg n_12)])))) (.ite (!decide (n_6.2.1 = 0)) (.leaf (.ret [.agg [.int .u8 0, .str (Array.toList #[]), .str (Array.toList #[]), .str (Array.toList #[]), .int .u8 0, .str (Array.toList #[]), .str (Array.toList #[]), .int .i64 0, .nils, .int .i64 0, .nils, .nils], .int .i64 n_6.2.1] [.box [.str (Deal.long d), .str (Deal.short d), .str (Deal.ccy d), .str (Deal.name d), .str (Deal.zb d), .str (Deal.zf d)], .box [.int .u8 0, .str (Array.toList #[]), .str (Array.toList #[]), .str (Array.toList #[]), .int .u8 0, .str (Array.toList #[]), .str (Array.toList #[]), .int .i64 0, .nils, .int .i64 0, .nils, .nils], .box [.str (Deal.long d), .str (Deal.short d), .str (Deal.ccy d), .str (Deal.name d), .str (Deal.zb d), .str (Deal.zf d)], .box [.int .i64 n_6.2.1, .str (Deal.long n_6.1), .str (Deal.short n_6.1), .str (Deal.ccy n_6.1), .str (Deal.name n_6.1), .str (Deal.zb n_6.1), .str (Deal.zf n_6.1)], .arr n.2.2.length 1 (ratG n.2.2), .box (Con.zg (Tm.at_ n_8.1 n_8.2)), .box [.int .u8 0, .str (Array.toList #[]), .str (Array.toList #[]), .str (Array.toList #[]), .int .u8 0, .str (Array.toList #[]), .str (Array.toList #[]), .int .i64 0, .nils, .int .i64 0, .nils, .nils]])) (.ex (fun (x : Con) => eqL [(Con.conD (Tm.at_ n_8.1 n_8.2))] [(Con.conA x)] ∧ Con.big x < 274877906944) fun n_10 => .all (fun (x : Unit) => True) fun n_11 => .leaf (.ret [(Con.conD n_10), .int .i64 0] [.box [.str (Deal.long d), .str (Deal.short d), .str (Deal.ccy d), .str (Deal.name d), .str (Deal.zb d), .str (Deal.zf d)], .box (Con.zg n_10), .box [.str (Deal.long d), .str (Deal.short d), .str (Deal.ccy d), .str (Deal.name d), .str (Deal.zb d), .str (Deal.zf d)], .box [.int .i64 n_6.2.1, .str (Deal.long n_6.1), .str (Deal.short n_6.1), .str (Deal.ccy n_6.1), .str (Deal.name n_6.1), .str (Deal.zb n_6.1), .str (Deal.zf n_6.1)], .arr n.2.2.length 1 (ratG n.2.2), .box (Con.zg (Tm.at_ n_8.1 n_8.2)), .box (Con.zg n_10)])))) (by kernel_rfl) ?_
 simp only [Tree.holds, ze]
 refine ⟨(d, 0, [d.zb, d.zf]), ⟨by simp, by simp [Deal.cells, JU], trivial, by show 2 < 2 ^ 40; decide, xQ hp⟩, ⟨(), trivial⟩, fun _ _ => ?_⟩
 refine ⟨(d, Tm.first 0 [d.zb, d.zf]), ⟨by simp, by simp [Deal.cells], trivial, trivial⟩, ⟨(), trivial⟩, fun _ _ => ?_⟩
 refine ⟨(d, Tm.first 0 [d.zb, d.zf], Tm.spot d.name, put), ⟨⟨⟨rfl, rfl⟩, zT _, rfl, trivial⟩, by simp [Deal.cells], trivial, trivial⟩, ⟨(), trivial⟩, fun _ _ => ?_⟩
 refine ⟨(d, Tm.first 0 [d.zb, d.zf], Tm.over d.zb (Tm.spot d.name) put, d.zf), ⟨⟨⟨rfl, rfl⟩, zT _, rfl, trivial⟩, by simp [Deal.cells], trivial, trivial⟩, ⟨(), trivial⟩, fun _ _ => ?_⟩
 refine ⟨(day, Tm.pay d (Tm.over d.zb (Tm.spot d.name) put) d.zf), ⟨⟨⟨rfl, rfl⟩, zD _, trivial⟩, trivial⟩, ⟨(), trivial⟩, fun _ _ => ?_⟩
 obtain ⟨c, hc⟩ : ∃ c, Tm.pff d day put = c := ⟨_, rfl⟩
 have hn : c.nodes ≤ 1000000 := by rw [← hc]; show (Tm.pff d day put).nodes ≤ _; simp [Tm.pff, Tm.at_, Tm.pay, Con.nodes, Con.qH]
 change (_ → ∃ n_12, _) ∧ _
 simp only [← show Tm.pff d day put = Tm.at_ day (Tm.pay d (Tm.over d.zb (Tm.spot d.name) put) d.zf) from rfl]
 rw [hc] at hq hbig
 simp only [hc]
 have hq1 := kC hq
 have hq2 := xb hq
 have hq3 := y7 hq
 clear hq
 generalize Tm.first 0 [d.zb, d.zf] = e at hq1 hq2 hq3 ⊢
 refine ⟨fun h => ?_, fun h => ?_⟩
 ·have he := of_decide_eq_true h
  refine ⟨c, ⟨⟨zD c, trivial⟩, by omega, hn⟩, ⟨_, rfl⟩, ?_⟩
  rintro _ rfl
  refine ⟨fun _ => ⟨fun h1 => ?_, fun h1 => ?_⟩, fun h1 => absurd (h.symm.trans h1) (by decide)⟩
  ·exact RetR.out0 (hq2 he (by simpa using h1)) (fun h => by cases h) zero_eq
  ·refine ⟨c, ⟨⟨zD c, trivial⟩, by omega⟩, ⟨(), trivial⟩, fun _ _ => ?_⟩
   exact RetR.le0 (hq3 he (by simpa using h1)) (fun h => by cases h) (LeA.refl _)
 ·have he := of_decide_eq_false h
  refine ⟨fun _ => RetR.out0 (hq1 he) (fun h => by cases h) zero_eq, fun h1 => absurd h1 (by simp [he])⟩
theorem Con.Yu (e : Con) : eqG 1 12 (zi (zj 12 (Con.zg e)) 0) (Con.conG [e]) := by
 intro j o hj ho
 rcases (show j = 0 by omega) with rfl
 simp only [zi, zj, Nat.zero_add]
 rcases (show o = 0 ∨ o = 1 ∨ o = 2 ∨ o = 3 ∨ o = 4 ∨ o = 5 ∨ o = 6 ∨ o = 7 ∨ o = 8 ∨ o = 9 ∨ o = 10 ∨ o = 11 by omega) with rfl | rfl | rfl | rfl | rfl | rfl | rfl | rfl | rfl | rfl | rfl | rfl <;> rfl
structure OptA where
 d : Deal
 ch : List UInt8
 days : List Int
 put : Bool
def OptA.con (p : OptA) : Con := Tm.opt p.d p.ch p.days p.put
def XG : Ctr := ctrD false (fun p : OptA => [p.d.av, .str p.ch, Con.dayS p.days, .bool p.put]) (fun p => Tm.fits p.d ∧ p.ch.length ≤ 200 ∧ p.days.length ≤ 200) (fun p => decide (Tm.res p.d p.con = 0)) (fun p (_ : Unit) => True) (fun p _ => (.tup [p.con.outD (Ex.exS p.con.x.sub) (.osl 0 1 0 p.con.days.length) (.sl p.con.sub.length 12 p.con.deep), .int .i64 0], [.arr p.con.days.length 1 (Con.dayG p.con.days)])) (fun p => (.tup [Tm.zero.conD, .int .i64 (Tm.res p.d p.con)], []))
theorem Uv : zd Tryz.prog 59 XG := by
 refine zdt (fn := Tryz.f59) (c := Tryz.f59.body.getD .skip) rfl rfl rfl fun p hp O w0 Q hq hq' => ?_
 obtain ⟨d, ch, days, put⟩ := p
 replace hp : Tm.fits d ∧ ch.length ≤ 200 ∧ days.length ≤ 200 := hp
 have hbig := Tm.uY (ch := ch) (days := days) (put := put) hp.1 hp.2.1 hp.2.2
 replace hp := hp.1
 refine zc.run hmix ze6 [] 400 (T := .ex (fun (x : Deal × Int × List (List UInt8)) => eqL [AV.ptr 0 0, AV.osl 1 1 0 2] [AV.ptr 0 0, AV.osl 1 1 0 x.2.2.length] ∧ eqH [.box [AV.int .i64 0, AV.str (Deal.long d), AV.str (Deal.short d), AV.str (Deal.ccy d), AV.str (Deal.name d), AV.str (Deal.zb d), AV.str (Deal.zf d)], .arr 2 1 (zj 1 [AV.str (Deal.zb d), AV.str (Deal.zf d)])] [.box [AV.int .i64 x.2.1, AV.str (Deal.long x.1), AV.str (Deal.short x.1), AV.str (Deal.ccy x.1), AV.str (Deal.name x.1), AV.str (Deal.zb x.1), AV.str (Deal.zf x.1)], .arr x.2.2.length 1 (ratG x.2.2)] ∧ 2 = 2 ∧ x.2.2.length < 1099511627776 ∧ ∀ (r : List UInt8), r ∈ x.2.2 → r.length < 1099511627776) fun n => .all (fun (x : Unit) => True) fun n_1 => .ex (fun (x : Deal × Int) => eqL [AV.ptr 0 0] [AV.ptr 0 0] ∧ eqH [.box [AV.int .i64 (Tm.first n.2.1 n.2.2), AV.str (Deal.long n.1), AV.str (Deal.short n.1), AV.str (Deal.ccy n.1), AV.str (Deal.name n.1), AV.str (Deal.zb n.1), AV.str (Deal.zf n.1)]] [.box [AV.int .i64 x.2, AV.str (Deal.long x.1), AV.str (Deal.short x.1), AV.str (Deal.ccy x.1), AV.str (Deal.name x.1), AV.str (Deal.zb x.1), AV.str (Deal.zf x.1)]] ∧ 1 = 1 ∧ True) fun n_2 => .all (fun (x : Unit) => True) fun n_3 => .ex (fun (x : Deal × Int × Ex × Bool) => eqL [AV.ptr 0 0, (exD (Tm.spot (Deal.name n_2.1))), AV.bool put] [AV.ptr 0 0, x.2.2.1.exA, AV.bool x.2.2.2] ∧ eqH [.box [AV.int .i64 n_2.2, AV.str (Deal.long n_2.1), AV.str (Deal.short n_2.1), AV.str (Deal.ccy n_2.1), AV.str (Deal.name n_2.1), AV.str (Deal.zb n_2.1), AV.str (Deal.zf n_2.1)]] [.box [AV.int .i64 x.2.1, AV.str (Deal.long x.1), AV.str (Deal.short x.1), AV.str (Deal.ccy x.1), AV.str (Deal.name x.1), AV.str (Deal.zb x.1), AV.str (Deal.zf x.1)]] ∧ 1 = 1 ∧ True) fun n_4 => .all (fun (x : Unit) => True) fun n_5 => .ex (fun (x : Deal × Int × Ex × List UInt8) => eqL [AV.ptr 0 0, (exD (Tm.over (Deal.zb n_4.1) n_4.2.2.1 n_4.2.2.2)), AV.str (Deal.zf d)] [AV.ptr 0 0, x.2.2.1.exA, AV.str x.2.2.2] ∧ eqH [.box [AV.int .i64 n_4.2.1, AV.str (Deal.long n_4.1), AV.str (Deal.short n_4.1), AV.str (Deal.ccy n_4.1), AV.str (Deal.name n_4.1), AV.str (Deal.zb n_4.1), AV.str (Deal.zf n_4.1)]] [.box [AV.int .i64 x.2.1, AV.str (Deal.long x.1), AV.str (Deal.short x.1), AV.str (Deal.ccy x.1), AV.str (Deal.name x.1), AV.str (Deal.zb x.1), AV.str (Deal.zf x.1)]] ∧ 1 = 1 ∧ True) fun n_6 => .all (fun (x : Unit) => True) fun n_7 => .ite (decide (n_6.2.1 = 0)) (.ex (fun (x : Con) => eqL [AV.agg [AV.int .u8 8, AV.str (Deal.long d), AV.str (Array.toList #[]), AV.str ch, AV.int .u8 0, AV.str (Array.toList #[]), AV.str (Array.toList #[]), AV.int .i64 0, AV.nils, AV.int .i64 0, AV.sl days.length 1 (Con.dayG days), AV.sl 1 12 (zi (zj 12 (Con.zg (Tm.pay n_6.1 n_6.2.2.1 n_6.2.2.2))) 0)]] [(Con.conA x)] ∧ Con.big x < 1099511627776 ∧ Con.nodes x ≤ 1000000) fun n_8 => .all (fun (r : Int) => r = Con.errC n_8) fun n_9 => .ite (decide (n_6.2.1 = 0)) (.ite (!decide (n_9 = 0)) (.leaf (.ret [.agg [.int .u8 0, .str (Array.toList #[]), .str (Array.toList #[]), .str (Array.toList #[]), .int .u8 0, .str (Array.toList #[]), .str (Array.toList #[]), .int .i64 0, .nils, .int .i64 0, .nils, .nils], .int .i64 n_9] [.box [.str (Deal.long d), .str (Deal.short d), .str (Deal.ccy d), .str (Deal.name d), .str (Deal.zb d), .str (Deal.zf d)], .box [.int .u8 0, .str (Array.toList #[]), .str (Array.toList #[]), .str (Array.toList #[]), .int .u8 0, .str (Array.toList #[]), .str (Array.toList #[]), .int .i64 0, .nils, .int .i64 0, .nils, .nils], .box [.str (Deal.long d), .str (Deal.short d), .str (Deal.ccy d), .str (Deal.name d), .str (Deal.zb d), .str (Deal.zf d)], .box [.int .i64 n_9, .str (Deal.long n_6.1), .str (Deal.short n_6.1), .str (Deal.ccy n_6.1), .str (Deal.name n_6.1), .str (Deal.zb n_6.1), .str (Deal.zf n_6.1)], .arr n.2.2.length 1 (ratG n.2.2), .dead, .box [.int .u8 8, .str (Deal.long d), .str (Array.toList #[]), .str ch, .int .u8 0, .str (Array.toList #[]), .str (Array.toList #[]), .int .i64 0, .nils, .int .i64 0, .sl days.length 1 (Con.dayG days), .sl 1 12 (zi (zj 12 (Con.zg (Tm.pay n_6.1 n_6.2.2.1 n_6.2.2.2))) 0)], .box [.int .u8 0, .str (Array.toList #[]), .str (Array.toList #[]), .str (Array.toList #[]), .int .u8 0, .str (Array.toList #[]), .str (Array.toList #[]), .int .i64 0, .nils, .int .i64 0, .nils, .nils]])) (.ex (fun (x : Con) => eqL [AV.agg [AV.int .u8 8, AV.str (Deal.long d), AV.str (Array.toList #[]), AV.str ch, AV.int .u8 0, AV.str (Array.toList #[]), AV.str (Array.toList #[]), AV.int .i64 0, AV.nils, AV.int .i64 0, AV.sl days.length 1 (Con.dayG days), AV.sl 1 12 (zi (zj 12 (Con.zg (Tm.pay n_6.1 n_6.2.2.1 n_6.2.2.2))) 0)]] [(Con.conA x)] ∧ Con.big x < 274877906944) fun n_10 => .all (fun (x : Unit) => True) fun n_11 => .leaf (.ret [.agg [.int .u8 (Con.kind n_10), .str (Con.src n_10), .str (Con.dst n_10), .str (Con.name n_10), .int .u8 (Ex.kind (Con.x n_10)), .str (Ex.rat (Con.x n_10)), .str (Ex.name (Con.x n_10)), .int .i64 (Ex.date (Con.x n_10)), .sl (List.length (Ex.sub (Con.x n_10))) 5 (Ex.exG (Ex.sub (Con.x n_10))), .int .i64 (Con.date n_10), .osl 8 1 0 (List.length (Con.days n_10)), .sl (List.length (Con.sub n_10)) 12 (Con.deep n_10)], .int .i64 0] [.box [.str (Deal.long d), .str (Deal.short d), .str (Deal.ccy d), .str (Deal.name d), .str (Deal.zb d), .str (Deal.zf d)], .box [.int .u8 (Con.kind n_10), .str (Con.src n_10), .str (Con.dst n_10), .str (Con.name n_10), .int .u8 (Ex.kind (Con.x n_10)), .str (Ex.rat (Con.x n_10)), .str (Ex.name (Con.x n_10)), .int .i64 (Ex.date (Con.x n_10)), .sl (List.length (Ex.sub (Con.x n_10))) 5 (Ex.exG (Ex.sub (Con.x n_10))), .int .i64 (Con.date n_10), .osl 8 1 0 (List.length (Con.days n_10)), .sl (List.length (Con.sub n_10)) 12 (Con.deep n_10)], .box [.str (Deal.long d), .str (Deal.short d), .str (Deal.ccy d), .str (Deal.name d), .str (Deal.zb d), .str (Deal.zf d)], .box [.int .i64 n_9, .str (Deal.long n_6.1), .str (Deal.short n_6.1), .str (Deal.ccy n_6.1), .str (Deal.name n_6.1), .str (Deal.zb n_6.1), .str (Deal.zf n_6.1)], .arr n.2.2.length 1 (ratG n.2.2), .dead, .box [.int .u8 8, .str (Deal.long d), .str (Array.toList #[]), .str ch, .int .u8 0, .str (Array.toList #[]), .str (Array.toList #[]), .int .i64 0, .nils, .int .i64 0, .sl days.length 1 (Con.dayG days), .sl 1 12 (zi (zj 12 (Con.zg (Tm.pay n_6.1 n_6.2.2.1 n_6.2.2.2))) 0)], .box [.int .u8 (Con.kind n_10), .str (Con.src n_10), .str (Con.dst n_10), .str (Con.name n_10), .int .u8 (Ex.kind (Con.x n_10)), .str (Ex.rat (Con.x n_10)), .str (Ex.name (Con.x n_10)), .int .i64 (Ex.date (Con.x n_10)), .sl (List.length (Ex.sub (Con.x n_10))) 5 (Ex.exG (Ex.sub (Con.x n_10))), .int .i64 (Con.date n_10), .osl 8 1 0 (List.length (Con.days n_10)), .sl (List.length (Con.sub n_10)) 12 (Con.deep n_10)], .arr (List.length (Con.days n_10)) 1 (Con.dayG (Con.days n_10))]))) (.ite (!decide (n_6.2.1 = 0)) (.leaf (.ret [.agg [.int .u8 0, .str (Array.toList #[]), .str (Array.toList #[]), .str (Array.toList #[]), .int .u8 0, .str (Array.toList #[]), .str (Array.toList #[]), .int .i64 0, .nils, .int .i64 0, .nils, .nils], .int .i64 n_6.2.1] [.box [.str (Deal.long d), .str (Deal.short d), .str (Deal.ccy d), .str (Deal.name d), .str (Deal.zb d), .str (Deal.zf d)], .box [.int .u8 0, .str (Array.toList #[]), .str (Array.toList #[]), .str (Array.toList #[]), .int .u8 0, .str (Array.toList #[]), .str (Array.toList #[]), .int .i64 0, .nils, .int .i64 0, .nils, .nils], .box [.str (Deal.long d), .str (Deal.short d), .str (Deal.ccy d), .str (Deal.name d), .str (Deal.zb d), .str (Deal.zf d)], .box [.int .i64 n_6.2.1, .str (Deal.long n_6.1), .str (Deal.short n_6.1), .str (Deal.ccy n_6.1), .str (Deal.name n_6.1), .str (Deal.zb n_6.1), .str (Deal.zf n_6.1)], .arr n.2.2.length 1 (ratG n.2.2), .dead, .box [.int .u8 8, .str (Deal.long d), .str (Array.toList #[]), .str ch, .int .u8 0, .str (Array.toList #[]), .str (Array.toList #[]), .int .i64 0, .nils, .int .i64 0, .sl days.length 1 (Con.dayG days), .sl 1 12 (zi (zj 12 (Con.zg (Tm.pay n_6.1 n_6.2.2.1 n_6.2.2.2))) 0)], .box [.int .u8 0, .str (Array.toList #[]), .str (Array.toList #[]), .str (Array.toList #[]), .int .u8 0, .str (Array.toList #[]), .str (Array.toList #[]), .int .i64 0, .nils, .int .i64 0, .nils, .nils]])) (.ex (fun (x : Con) => eqL [AV.agg [AV.int .u8 8, AV.str (Deal.long d), AV.str (Array.toList #[]), AV.str ch, AV.int .u8 0, AV.str (Array.toList #[]), AV.str (Array.toList #[]), AV.int .i64 0, AV.nils, AV.int .i64 0, AV.sl days.length 1 (Con.dayG days), AV.sl 1 12 (zi (zj 12 (Con.zg (Tm.pay n_6.1 n_6.2.2.1 n_6.2.2.2))) 0)]] [(Con.conA x)] ∧ Con.big x < 274877906944) fun n_10 => .all (fun (x : Unit) => True) fun n_11 => .leaf (.ret [.agg [.int .u8 (Con.kind n_10), .str (Con.src n_10), .str (Con.dst n_10), .str (Con.name n_10), .int .u8 (Ex.kind (Con.x n_10)), .str (Ex.rat (Con.x n_10)), .str (Ex.name (Con.x n_10)), .int .i64 (Ex.date (Con.x n_10)), .sl (List.length (Ex.sub (Con.x n_10))) 5 (Ex.exG (Ex.sub (Con.x n_10))), .int .i64 (Con.date n_10), .osl 8 1 0 (List.length (Con.days n_10)), .sl (List.length (Con.sub n_10)) 12 (Con.deep n_10)], .int .i64 0] [.box [.str (Deal.long d), .str (Deal.short d), .str (Deal.ccy d), .str (Deal.name d), .str (Deal.zb d), .str (Deal.zf d)], .box [.int .u8 (Con.kind n_10), .str (Con.src n_10), .str (Con.dst n_10), .str (Con.name n_10), .int .u8 (Ex.kind (Con.x n_10)), .str (Ex.rat (Con.x n_10)), .str (Ex.name (Con.x n_10)), .int .i64 (Ex.date (Con.x n_10)), .sl (List.length (Ex.sub (Con.x n_10))) 5 (Ex.exG (Ex.sub (Con.x n_10))), .int .i64 (Con.date n_10), .osl 8 1 0 (List.length (Con.days n_10)), .sl (List.length (Con.sub n_10)) 12 (Con.deep n_10)], .box [.str (Deal.long d), .str (Deal.short d), .str (Deal.ccy d), .str (Deal.name d), .str (Deal.zb d), .str (Deal.zf d)], .box [.int .i64 n_6.2.1, .str (Deal.long n_6.1), .str (Deal.short n_6.1), .str (Deal.ccy n_6.1), .str (Deal.name n_6.1), .str (Deal.zb n_6.1), .str (Deal.zf n_6.1)], .arr n.2.2.length 1 (ratG n.2.2), .dead, .box [.int .u8 8, .str (Deal.long d), .str (Array.toList #[]), .str ch, .int .u8 0, .str (Array.toList #[]), .str (Array.toList #[]), .int .i64 0, .nils, .int .i64 0, .sl days.length 1 (Con.dayG days), .sl 1 12 (zi (zj 12 (Con.zg (Tm.pay n_6.1 n_6.2.2.1 n_6.2.2.2))) 0)], .box [.int .u8 (Con.kind n_10), .str (Con.src n_10), .str (Con.dst n_10), .str (Con.name n_10), .int .u8 (Ex.kind (Con.x n_10)), .str (Ex.rat (Con.x n_10)), .str (Ex.name (Con.x n_10)), .int .i64 (Ex.date (Con.x n_10)), .sl (List.length (Ex.sub (Con.x n_10))) 5 (Ex.exG (Ex.sub (Con.x n_10))), .int .i64 (Con.date n_10), .osl 8 1 0 (List.length (Con.days n_10)), .sl (List.length (Con.sub n_10)) 12 (Con.deep n_10)], .arr (List.length (Con.days n_10)) 1 (Con.dayG (Con.days n_10))])))) (.ite (!decide (n_6.2.1 = 0)) (.leaf (.ret [.agg [.int .u8 0, .str (Array.toList #[]), .str (Array.toList #[]), .str (Array.toList #[]), .int .u8 0, .str (Array.toList #[]), .str (Array.toList #[]), .int .i64 0, .nils, .int .i64 0, .nils, .nils], .int .i64 n_6.2.1] [.box [.str (Deal.long d), .str (Deal.short d), .str (Deal.ccy d), .str (Deal.name d), .str (Deal.zb d), .str (Deal.zf d)], .box [.int .u8 0, .str (Array.toList #[]), .str (Array.toList #[]), .str (Array.toList #[]), .int .u8 0, .str (Array.toList #[]), .str (Array.toList #[]), .int .i64 0, .nils, .int .i64 0, .nils, .nils], .box [.str (Deal.long d), .str (Deal.short d), .str (Deal.ccy d), .str (Deal.name d), .str (Deal.zb d), .str (Deal.zf d)], .box [.int .i64 n_6.2.1, .str (Deal.long n_6.1), .str (Deal.short n_6.1), .str (Deal.ccy n_6.1), .str (Deal.name n_6.1), .str (Deal.zb n_6.1), .str (Deal.zf n_6.1)], .arr n.2.2.length 1 (ratG n.2.2), .dead, .box [.int .u8 8, .str (Deal.long d), .str (Array.toList #[]), .str ch, .int .u8 0, .str (Array.toList #[]), .str (Array.toList #[]), .int .i64 0, .nils, .int .i64 0, .sl days.length 1 (Con.dayG days), .sl 1 12 (zi (zj 12 (Con.zg (Tm.pay n_6.1 n_6.2.2.1 n_6.2.2.2))) 0)], .box [.int .u8 0, .str (Array.toList #[]), .str (Array.toList #[]), .str (Array.toList #[]), .int .u8 0, .str (Array.toList #[]), .str (Array.toList #[]), .int .i64 0, .nils, .int .i64 0, .nils, .nils]])) (.ex (fun (x : Con) => eqL [AV.agg [AV.int .u8 8, AV.str (Deal.long d), AV.str (Array.toList #[]), AV.str ch, AV.int .u8 0, AV.str (Array.toList #[]), AV.str (Array.toList #[]), AV.int .i64 0, AV.nils, AV.int .i64 0, AV.sl days.length 1 (Con.dayG days), AV.sl 1 12 (zi (zj 12 (Con.zg (Tm.pay n_6.1 n_6.2.2.1 n_6.2.2.2))) 0)]] [(Con.conA x)] ∧ Con.big x < 274877906944) fun n_8 => .all (fun (x : Unit) => True) fun n_9 => .leaf (.ret [.agg [.int .u8 (Con.kind n_8), .str (Con.src n_8), .str (Con.dst n_8), .str (Con.name n_8), .int .u8 (Ex.kind (Con.x n_8)), .str (Ex.rat (Con.x n_8)), .str (Ex.name (Con.x n_8)), .int .i64 (Ex.date (Con.x n_8)), .sl (List.length (Ex.sub (Con.x n_8))) 5 (Ex.exG (Ex.sub (Con.x n_8))), .int .i64 (Con.date n_8), .osl 8 1 0 (List.length (Con.days n_8)), .sl (List.length (Con.sub n_8)) 12 (Con.deep n_8)], .int .i64 0] [.box [.str (Deal.long d), .str (Deal.short d), .str (Deal.ccy d), .str (Deal.name d), .str (Deal.zb d), .str (Deal.zf d)], .box [.int .u8 (Con.kind n_8), .str (Con.src n_8), .str (Con.dst n_8), .str (Con.name n_8), .int .u8 (Ex.kind (Con.x n_8)), .str (Ex.rat (Con.x n_8)), .str (Ex.name (Con.x n_8)), .int .i64 (Ex.date (Con.x n_8)), .sl (List.length (Ex.sub (Con.x n_8))) 5 (Ex.exG (Ex.sub (Con.x n_8))), .int .i64 (Con.date n_8), .osl 8 1 0 (List.length (Con.days n_8)), .sl (List.length (Con.sub n_8)) 12 (Con.deep n_8)], .box [.str (Deal.long d), .str (Deal.short d), .str (Deal.ccy d), .str (Deal.name d), .str (Deal.zb d), .str (Deal.zf d)], .box [.int .i64 n_6.2.1, .str (Deal.long n_6.1), .str (Deal.short n_6.1), .str (Deal.ccy n_6.1), .str (Deal.name n_6.1), .str (Deal.zb n_6.1), .str (Deal.zf n_6.1)], .arr n.2.2.length 1 (ratG n.2.2), .dead, .box [.int .u8 8, .str (Deal.long d), .str (Array.toList #[]), .str ch, .int .u8 0, .str (Array.toList #[]), .str (Array.toList #[]), .int .i64 0, .nils, .int .i64 0, .sl days.length 1 (Con.dayG days), .sl 1 12 (zi (zj 12 (Con.zg (Tm.pay n_6.1 n_6.2.2.1 n_6.2.2.2))) 0)], .box [.int .u8 (Con.kind n_8), .str (Con.src n_8), .str (Con.dst n_8), .str (Con.name n_8), .int .u8 (Ex.kind (Con.x n_8)), .str (Ex.rat (Con.x n_8)), .str (Ex.name (Con.x n_8)), .int .i64 (Ex.date (Con.x n_8)), .sl (List.length (Ex.sub (Con.x n_8))) 5 (Ex.exG (Ex.sub (Con.x n_8))), .int .i64 (Con.date n_8), .osl 8 1 0 (List.length (Con.days n_8)), .sl (List.length (Con.sub n_8)) 12 (Con.deep n_8)], .arr (List.length (Con.days n_8)) 1 (Con.dayG (Con.days n_8))])))) (by kernel_rfl) ?_
 simp only [Tree.holds, ze]
 refine ⟨(d, 0, [d.zb, d.zf]), ⟨by simp, by simp [Deal.cells, JU], trivial, by show 2 < 2 ^ 40; decide, xQ hp⟩, ⟨(), trivial⟩, fun _ _ => ?_⟩
 refine ⟨(d, Tm.first 0 [d.zb, d.zf]), ⟨by simp, by simp [Deal.cells], trivial, trivial⟩, ⟨(), trivial⟩, fun _ _ => ?_⟩
 refine ⟨(d, Tm.first 0 [d.zb, d.zf], Tm.spot d.name, put), ⟨⟨⟨rfl, rfl⟩, zT _, rfl, trivial⟩, by simp [Deal.cells], trivial, trivial⟩, ⟨(), trivial⟩, fun _ _ => ?_⟩
 refine ⟨(d, Tm.first 0 [d.zb, d.zf], Tm.over d.zb (Tm.spot d.name) put, d.zf), ⟨⟨⟨rfl, rfl⟩, zT _, rfl, trivial⟩, by simp [Deal.cells], trivial, trivial⟩, ⟨(), trivial⟩, fun _ _ => ?_⟩
 have hn : (Tm.opt d ch days put).nodes ≤ 1000000 := by simp [Tm.opt, Tm.call, Tm.pay, Con.nodes, Con.qH]
 have hq1 := fun h => hq (by simpa using h) () trivial
 have hq2 := fun h => hq' (by simpa using h)
 clear hq hq'
 simp only [OptA.con] at hq1 hq2
 have harg : eqA (.agg [.int .u8 8, .str d.long, .str [], .str ch, .int .u8 0, .str [], .str [], .int .i64 0, .nils, .int .i64 0, .sl days.length 1 (Con.dayG days), .sl 1 12 (zi (zj 12 (Con.zg (Tm.pay d (Tm.over d.zb (Tm.spot d.name) put) d.zf))) 0)]) (Tm.opt d ch days put).conA := ⟨⟨rfl, rfl⟩, rfl, rfl, rfl, ⟨rfl, rfl⟩, rfl, rfl, ⟨rfl, rfl⟩, rfl, ⟨rfl, rfl⟩, ⟨rfl, rfl, za _ _ _⟩, ⟨rfl, rfl, Con.Yu _⟩, trivial⟩
 generalize Tm.opt d ch days put = c at hq1 hq2 hbig hn harg
 unfold Tm.res at hq1 hq2
 refine ⟨fun h => ?_, fun h => ?_⟩
 ·have he := of_decide_eq_true h
  dsimp only at he
  rw [if_pos he] at hq1 hq2
  refine ⟨c, ⟨⟨harg, trivial⟩, by omega, hn⟩, ⟨_, rfl⟩, ?_⟩
  rintro _ rfl
  refine ⟨fun _ => ⟨fun h1 => ?_, fun h1 => ?_⟩, fun h1 => absurd (h.symm.trans h1) (by decide)⟩
  ·exact RetR.out0 (hq2 (by simpa using h1)) (fun h => by cases h) zero_eq
  ·refine ⟨c, ⟨⟨harg, trivial⟩, by omega⟩, ⟨(), trivial⟩, fun _ _ => ?_⟩
   refine RetR.outs [8] rfl rfl (hq1 (by simpa using h1)) (fun h => by cases h) ?_ ?_ rfl
   ·exact ⟨⟨⟨rfl, rfl⟩, rfl, rfl, rfl, ⟨rfl, rfl⟩, rfl, rfl, ⟨rfl, rfl⟩, ⟨rfl, rfl, za _ _ _⟩, ⟨rfl, rfl⟩, ⟨rfl, rfl, rfl, rfl⟩, ⟨rfl, rfl, za _ _ _⟩, trivial⟩, ⟨rfl, rfl⟩, trivial⟩
   ·exact ⟨⟨rfl, rfl, za _ _ _⟩, trivial⟩
 ·have he := of_decide_eq_false h
  dsimp only at he
  rw [if_neg he] at hq1 hq2
  refine ⟨fun _ => RetR.out0 (hq2 he) (fun h => by cases h) zero_eq, fun h1 => absurd h1 (by simp; exact he)⟩
end Go.Proofs.Tryz
end
