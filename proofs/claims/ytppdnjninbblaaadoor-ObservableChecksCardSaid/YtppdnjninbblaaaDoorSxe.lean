/- The law returns true for every input, and each argument reads afterwards as it read before; no condition. -/
import Derived.Test.YtppdnjninbblaaaDoorSxd
import Derived.SizedLaws
import Derived.ChangeArms
import Derived.Deep.Slices
import Derived.Carry
import Derived.LaidMore
import Derived.WideKeyElems2
import Derived.Test.YtppdnjninbblaaaDoorRows
import Derived.ProofKit
import Derived.OpenShut
import Derived.ReadAgain
import Derived.Test.YtppdnjninbblaaaDoorCards
import Derived.Test.YtppdnjninbblaaaDoorTie
import Derived.Stop.Joined
import Derived.SevenTiedAt
/- Nil slices of a result, handed back as own empty ones. -/
section
set_option linter.unusedVariables false
set_option linter.unusedSimpArgs false
set_option linter.unusedSectionVars false
namespace Go.Sx
variable [Stat]
section
variable {own own' O : Nat → Prop} {w w' : World} {σ σ' : List SE} {P : Program} {fn : Func}

def upA0 (d k : Nat) : AV → AV → Prop
  | .nils, .osl i _ off n => (d ≤ i ∧ i < d + k) ∧ off = 0 ∧ n = 0
  | a, b => a = b
def upL0 (d k : Nat) : List AV → List AV → Prop
  | [], [] => True
  | a :: l, b :: m => upA0 d k a b ∧ upL0 d k l m
  | _, _ => False
def upA1 (d k : Nat) : AV → AV → Prop
  | .agg l, .agg m => upL0 d k l m
  | a, b => upA0 d k a b
def upL1 (d k : Nat) : List AV → List AV → Prop
  | [], [] => True
  | a :: l, b :: m => upA1 d k a b ∧ upL1 d k l m
  | _, _ => False
def upA2 (d k : Nat) : AV → AV → Prop
  | .tup l, .tup m => upL1 d k l m
  | a, b => upA1 d k a b

def voids (k : Nat) : List SE := List.replicate k ⟨none, 0⟩
theorem CallP.mono {g : Nat} {vals : Array Value} {R R' : Value → World → Prop} (hR : ∀ v w', R v w' → R' v w') (h : CallP P g vals w R) : CallP P g vals w R' := by
  rcases h with ⟨h1, h2⟩ | ⟨v, w', h1, h2⟩
  · exact .inl ⟨h1, h2.mono fun e w' ⟨v, he, hv⟩ => ⟨v, he, hR v w' hv⟩⟩
  · exact .inr ⟨v, w', h1, hR v w' h2⟩
theorem voids_get {k i : Nat} {e : SE} (h : (σ ++ voids k)[i]? = some e) : (i < σ.length ∧ σ[i]? = some e) ∨ (σ.length ≤ i ∧ e = ⟨none, 0⟩) := by
  rw [List.getElem?_append] at h
  split at h
  · rename_i hi; exact .inl ⟨hi, h⟩
  · rename_i hi
    right
    refine ⟨by omega, ?_⟩
    simp only [voids, List.getElem?_replicate] at h
    split at h
    · cases h; rfl
    · cases h
theorem voids_mine {k b : Nat} (h : Mine (σ ++ voids k) b) : Mine σ b := by
  obtain ⟨e, he, ad, h1, h2⟩ := h
  rcases List.mem_append.1 he with he | he
  · exact ⟨e, he, ad, h1, h2⟩
  · have := List.eq_of_mem_replicate he
    subst this
    cases h1
theorem voids_own {k b : Nat} (h : Own O (σ ++ voids k) b) : Own O σ b := by
  rcases h with h | h
  · exact .inl h
  · exact .inr (voids_mine h)
theorem voids_hold (K : List Nat) (w : World) (σ : List SE) (k : Nat) : Hold K w σ w (σ ++ voids k) := fun i e he _ => by
  have hi := (List.getElem?_eq_some_iff.1 he).1
  exact ⟨by rw [List.getElem?_append_left hi]; exact he, fun ad _ cs el h => ⟨cs, el, h, rfl⟩⟩
theorem up0_sound {k : Nat} (hx : Ext own w own' w) {a b : AV} {v : Value} (hu : upA0 σ.length k a b) (ha : Rep own w a σ v) : Rep own' w b (σ ++ voids k) v := by
  unfold upA0 at hu
  split at hu
  · obtain ⟨⟨h1, h2⟩, rfl, rfl⟩ := hu
    rename_i i sz _ _
    simp only [Rep] at ha ⊢
    refine ⟨⟨none, 0⟩, ?_, by simp, none, 0, ha, Nat.le_refl _, .inl rfl⟩
    rw [List.getElem?_append_right h1, voids, List.getElem?_replicate, if_pos (by omega)]
  · subst hu
    exact Rep_step (K := []) hx (voids_hold [] w σ k) _ _ (NoH_nil _) ha
theorem upL0_sound {k : Nat} (hx : Ext own w own' w) : ∀ {l m : List AV} {vs : List Value}, upL0 σ.length k l m → RepL own w l σ vs → RepL own' w m (σ ++ voids k) vs
  | [], [], vs, _, h => by simpa [RepL] using h
  | a :: l, b :: m, vs, hl, h => by
    simp only [RepL] at h ⊢
    obtain ⟨v, r, hv, h1, h2⟩ := h
    exact ⟨v, r, hv, up0_sound hx hl.1 h1, upL0_sound hx hl.2 h2⟩
  | [], _ :: _, _, hl, _ => hl.elim
  | _ :: _, [], _, hl, _ => hl.elim
theorem up1_sound {k : Nat} (hx : Ext own w own' w) {a b : AV} {v : Value} (hu : upA1 σ.length k a b) (ha : Rep own w a σ v) : Rep own' w b (σ ++ voids k) v := by
  unfold upA1 at hu
  split at hu
  · simp only [Rep] at ha ⊢
    obtain ⟨vs, hv, hr⟩ := ha
    exact ⟨vs, hv, upL0_sound hx hu hr⟩
  · exact up0_sound hx hu ha
theorem upL1_sound {k : Nat} (hx : Ext own w own' w) : ∀ {l m : List AV} {vs : List Value}, upL1 σ.length k l m → RepL own w l σ vs → RepL own' w m (σ ++ voids k) vs
  | [], [], vs, _, h => by simpa [RepL] using h
  | a :: l, b :: m, vs, hl, h => by
    simp only [RepL] at h ⊢
    obtain ⟨v, r, hv, h1, h2⟩ := h
    exact ⟨v, r, hv, up1_sound hx hl.1 h1, upL1_sound hx hl.2 h2⟩
  | [], _ :: _, _, hl, _ => hl.elim
  | _ :: _, [], _, hl, _ => hl.elim
theorem up2_sound {k : Nat} (hx : Ext own w own' w) {a b : AV} {v : Value} (hu : upA2 σ.length k a b) (ha : Rep own w a σ v) : Rep own' w b (σ ++ voids k) v := by
  unfold upA2 at hu
  split at hu
  · simp only [Rep] at ha ⊢
    obtain ⟨vs, hv, hr⟩ := ha
    exact ⟨vs, hv, upL1_sound hx hu hr⟩
  · exact up1_sound hx hu ha
def voidH (szs : List (Nat × (Nat → Nat → AV))) : Heap := szs.map fun s => .arr 0 s.1 s.2
theorem hrep_up (hx : Ext own w own' w) {hs : Heap} (hh : HRep own w σ hs) (szs : List (Nat × (Nat → Nat → AV))) : HRep own' w (σ ++ voids szs.length) (hs ++ voidH szs) := by
  have hl := hh.len
  refine ⟨by simp [voids, voidH, hl], fun i j e f a b he hf ha hb hij => ?_, fun i e a he ha => ?_, fun i e b he hb => ?_⟩
  · rcases voids_get he with ⟨_, he⟩ | ⟨_, rfl⟩
    · rcases voids_get hf with ⟨_, hf⟩ | ⟨_, rfl⟩
      · exact hh.inj i j e f a b he hf ha hb hij
      · cases hb
    · cases ha
  · rcases voids_get he with ⟨_, he⟩ | ⟨_, rfl⟩
    · exact hh.lt i e a he ha
    · cases ha
  · rcases voids_get he with ⟨hi, he⟩ | ⟨hi, rfl⟩
    · rw [List.getElem?_append_left (by omega)] at hb
      have := brep_step (K := []) hx (voids_hold [] w σ szs.length) (hh.blk i e b he hb) (fun _ _ => rfl)
      rwa [killsB_nil] at this
    · rw [List.getElem?_append_right (by omega)] at hb
      simp only [voidH, List.getElem?_map] at hb
      cases hz : szs[i - hs.length]? with
      | none => simp [hz] at hb
      | some s =>
        simp only [hz, Option.map_some, Option.some.injEq] at hb
        subst hb
        exact ⟨rfl, .inl rfl⟩
/-- What is asked of a result some of whose nil slices are taken for own empty ones. -/
def upQ (Q : AV × Heap → Prop) (p : AV × Heap) : Prop := Q p ∨ ∃ (r : AV) (szs : List (Nat × (Nat → Nat → AV))), upA2 p.2.length szs.length p.1 r ∧ Q (r, p.2 ++ voidH szs)
theorem CtrAt.up {g : Nat} {c : Ctr} {args : List AV} {hc : Heap} {Q : AV × Heap → Prop} (h : CtrAt P g c args hc (upQ Q)) : CtrAt P g c args hc Q := by
  intro O w σ vals hg hh hr
  refine CallP.mono ?_ (h O w σ vals hg hh hr)
  rintro v w' ⟨r, hs, σ', hq, h1, h2, h3, h4, h5, h6⟩
  rcases hq with hq | ⟨r', szs, hu, hq⟩
  · exact ⟨r, hs, σ', hq, h1, h2, h3, h4, h5, h6⟩
  · have hx : Ext (fun b => Own O σ' b ∨ (c.fresh = true ∧ b < w.heap.size)) w' (fun b => Own O (σ' ++ voids szs.length) b ∨ (c.fresh = true ∧ b < w.heap.size)) w' :=
      ⟨rfl, rfl, rfl, Nat.le_refl _, fun _ _ _ => rfl, fun b hb => .inl (hb.imp voids_own id)⟩
    have hl : hs.length = σ'.length := h2.len.symm
    refine ⟨r', hs ++ voidH szs, σ' ++ voids szs.length, hq, up2_sound hx (by rw [← hl]; exact hu) h1, hrep_up hx h2 szs, ⟨h3.old, fun i e ad he had => ?_, h3.stat.own fun b hb => voids_own hb⟩, by simp; omega, h5.trans0 (voids_hold [] w' σ' _), ?_⟩
    · rcases voids_get he with ⟨_, he⟩ | ⟨_, rfl⟩
      · exact h3.dis i e ad he had
      · cases had
    · exact ⟨h6.os, h6.tape, h6.output, h6.size, h6.keep, fun b hb => h6.grow b (voids_mine hb)⟩
theorem fn_ctrTN {X R : Type} {fresh moves : Bool} {inp : X → List AV} {hin : X → Heap} {pre : X → Prop} {post : X → R → Prop} {out : X → R → AV × Heap} {g : Nat} {c : Code} (hf : P.funcs[g]? = some fn) (hb : fn.body = some c) (hn : (fn.name == "runtime.NumGoroutine") = false)
    (hfr : fresh = true → ∀ x, hin x = [])
    (H : ∀ x, pre x → ∀ (O : Nat → Prop) (w0 : World) (σ0 : List SE) (Q : AV × Heap → Prop), σ0.length = (hin x).length → (∀ r, post x r → Q (out x r)) →
      SafeK P fn O (bif moves then 0 else (hin x).length) w0 σ0 (fun _ _ _ => False) (RetR (ctrT fresh moves inp hin pre post out) (hin x).length (upQ Q)) [.code c] (entryH fn (inp x) (hin x))) : CtrOK P g (ctrT fresh moves inp hin pre post out) := by
  intro args hc Q hq _
  obtain ⟨x, ⟨h1, h2, h3, h4⟩, h5, h6⟩ := hq
  refine CtrAt.le h1 (CtrAt.leH h2 h3 (CtrAt.up (fn_k hf hb hn (fun h => hfr h x) fun O w0 σ0 hl => ?_)))
  exact H x h4 O w0 σ0 Q hl h6
theorem fn_ctrPN {X R : Type} {fresh : Bool} {inp : X → List AV} {pre : X → Prop} {post : X → R → Prop} {out : X → R → AV × Heap} {g : Nat} {c : Code} (hf : P.funcs[g]? = some fn) (hb : fn.body = some c) (hn : (fn.name == "runtime.NumGoroutine") = false)
    (H : ∀ x, pre x → ∀ (O : Nat → Prop) (w0 : World) (Q : AV × Heap → Prop), (∀ r, post x r → Q (out x r)) →
      SafeK P fn O 0 w0 [] (fun _ _ _ => False) (RetR (ctrP fresh inp pre post out) 0 (upQ Q)) [.code c] (entry fn (inp x))) : CtrOK P g (ctrP fresh inp pre post out) := by
  intro args hc Q hq _
  simp only [ctrP] at hq
  split at hq
  · obtain ⟨x, ⟨h1, h4⟩, h5, h6⟩ := hq
    refine CtrAt.le h1 (CtrAt.up (fn_k hf hb hn (fun h => rfl) fun O w0 σ0 hl => ?_))
    have h0 : σ0 = [] := List.length_eq_zero_iff.1 (by simpa using hl)
    subst h0
    exact H x h4 O w0 Q h6
  · exact hq.elim

/-- Slot by slot, block by block. -/
def upKV (d k : Nat) : KV → KV → Prop
  | [], [] => True
  | (i, a) :: l, (j, b) :: m => i = j ∧ upA2 d k a b ∧ upKV d k l m
  | _, _ => False
def upB (d k : Nat) : Blk → Blk → Prop
  | .box l, .box m => upL1 d k l m
  | a, b => a = b
def upH (d k : Nat) : Heap → Heap → Prop
  | [], [] => True
  | b :: l, c :: m => upB d k b c ∧ upH d k l m
  | _, _ => False
theorem upKV_look {d k : Nat} : ∀ {l m : KV} (t : Nat), upKV d k l m → upA2 d k (look l t) (look m t)
  | [], [], t, _ => by simp [look, upA2, upA1, upA0]
  | (i, a) :: l, (j, b) :: m, t, h => by
    obtain ⟨rfl, h1, h2⟩ := h
    simp only [look]
    split
    · exact h1
    · exact upKV_look t h2
  | [], _ :: _, _, h => h.elim
  | _ :: _, [], _, h => h.elim
theorem upH_len {d k : Nat} : ∀ {l m : Heap}, upH d k l m → l.length = m.length
  | [], [], _ => rfl
  | _ :: l, _ :: m, h => by simp [upH_len h.2]
  | [], _ :: _, h => h.elim
  | _ :: _, [], h => h.elim
theorem upH_get {d k : Nat} : ∀ {l m : Heap} {i : Nat} {b' : Blk}, upH d k l m → m[i]? = some b' → ∃ b, l[i]? = some b ∧ upB d k b b'
  | b :: l, c :: m, 0, b', h, h1 => by simp at h1; subst h1; exact ⟨b, rfl, h.1⟩
  | b :: l, c :: m, i + 1, b', h, h1 => by simpa using upH_get h.2 (by simpa using h1)
  | [], [], _, _, _, h1 => by simp at h1
  | [], _ :: _, _, _, h, _ => h.elim
  | _ :: _, [], _, _, h, _ => h.elim
theorem upB_sound {k : Nat} (hx : Ext own w own' w) {e : SE} {b b' : Blk} (hu : upB σ.length k b b') (hb : BRep own w σ e b) : BRep own' w (σ ++ voids k) e b' := by
  unfold upB at hu
  split at hu
  · simp only [BRep] at hb ⊢
    obtain ⟨ad, vs, el, h1, h2, h3, h4⟩ := hb
    exact ⟨ad, vs, el, h1, h2, h3, upL1_sound hx hu h4⟩
  · subst hu
    have := brep_step (K := []) hx (voids_hold [] w σ k) hb (fun _ _ => rfl)
    rwa [killsB_nil] at this
variable {pin : Nat} {w0 : World} {σ0 : List SE} {a : Act}
theorem up_mod {kv kv2 : KV} {h h2 : Heap} {n : Nat} (hm : Mod O pin w0 σ0 w σ (mk n kv h) a) {szs : List (Nat × (Nat → Nat → AV))} (hkv : upKV h.length szs.length kv kv2) (hh2 : upH h.length szs.length h h2) (hno : (pk n kv).all noOptB = true) (hno2 : (pk n kv2).all noOptB = true) : Mod O pin w0 σ0 w (σ ++ voids szs.length) (mk n kv2 (h2 ++ voidH szs)) a := by
  have hx : Ext (Own O σ) w (Own O (σ ++ voids szs.length)) w := ⟨rfl, rfl, rfl, Nat.le_refl _, fun _ _ _ => rfl, fun b hb => .inl (voids_own hb)⟩
  have hl : h.length = σ.length := hm.hp.len.symm
  rw [hl] at hkv hh2
  have hl2 := upH_len hh2
  refine ⟨⟨hm.good.old, fun i e ad he had => ?_, hm.good.stat.ext hx⟩, ?_, by simp [hm.size, mk, pk], fun u => ?_, hm.df.ext hx, hm.since.trans ⟨hx, fun _ _ _ => rfl, HoldP.of (voids_hold [] w σ _) (by simp)⟩, hm.lim⟩
  · rcases voids_get he with ⟨_, he⟩ | ⟨_, rfl⟩
    · exact hm.good.dis i e ad he had
    · cases had
  · have hh := hm.hp
    refine ⟨by simp [mk, voids, voidH, ← hl2, hl], fun i j e f x y he hf ha hb hij => ?_, fun i e x he ha => ?_, fun i e b he hb => ?_⟩
    · rcases voids_get he with ⟨_, he⟩ | ⟨_, rfl⟩
      · rcases voids_get hf with ⟨_, hf⟩ | ⟨_, rfl⟩
        · exact hh.inj i j e f x y he hf ha hb hij
        · cases hb
      · cases ha
    · rcases voids_get he with ⟨_, he⟩ | ⟨_, rfl⟩
      · exact hh.lt i e x he ha
      · cases ha
    · simp only [mk] at hb
      rcases voids_get he with ⟨hi, he⟩ | ⟨hi, rfl⟩
      · rw [List.getElem?_append_left (by omega)] at hb
        obtain ⟨b0, h1, h3⟩ := upH_get hh2 hb
        exact upB_sound hx h3 (hh.blk i e b0 he h1)
      · rw [List.getElem?_append_right (by omega)] at hb
        simp only [voidH, List.getElem?_map] at hb
        cases hz : szs[i - h2.length]? with
        | none => simp [hz] at hb
        | some s =>
          simp only [hz, Option.map_some, Option.some.injEq] at hb
          subst hb
          exact ⟨rfl, .inl rfl⟩
  · have hu := hm.tm u
    have key : ∀ (kv : KV) (h : Heap), (pk n kv).all noOptB = true → noOptB ((mk n kv h).tmps.getD u .undef) = true := by
      intro kv h hno
      by_cases hlt : u < (mk n kv h).tmps.length
      · simp only [List.getD, List.getElem?_eq_getElem hlt, Option.getD_some]
        exact List.all_eq_true.1 hno _ (List.getElem_mem hlt)
      · simp only [List.getD]
        rw [List.getElem?_eq_none (by omega)]; rfl
    have n1 := key kv h hno
    have n2 := key kv2 (h2 ++ voidH szs) hno2
    have hr : Rep (Own O σ) w ((mk n kv h).tmps.getD u .undef) σ (a.tmps.getD u undef) := by
      generalize (mk n kv h).tmps.getD u .undef = x at hu n1
      cases x with
      | opt _ _ _ => simp [noOptB] at n1
      | _ => simpa only [TRep] using hu
    have hup : upA2 σ.length szs.length ((mk n kv h).tmps.getD u .undef) ((mk n kv2 (h2 ++ voidH szs)).tmps.getD u .undef) := by
      by_cases hlt : u < n
      · simp only [mk]
        rw [pk_getD hlt, pk_getD hlt]
        exact upKV_look u hkv
      · simp [mk, pk, List.getD, hlt, upA2, upA1, upA0]
    have := up2_sound hx hup hr
    generalize (mk n kv2 (h2 ++ voidH szs)).tmps.getD u .undef = y at this n2
    cases y with
    | opt _ _ _ => simp [noOptB] at n2
    | _ => simpa only [TRep] using this
/-- Nil slices in slots and boxes are taken for own empty ones. -/
theorem SafeK.up {M : Option Nat} {Hs : Nat → KV → Heap → Prop} {R : List AV → Heap → Prop} {k : List Item} {kv : KV} {h : Heap} (szs : List (Nat × (Nat → Nat → AV))) (kv2 : KV) (h2 : Heap) (hkv : upKV h.length szs.length kv kv2) (hh2 : upH h.length szs.length h h2) (hno : (pk fn.ntmps kv).all noOptB = true) (hno2 : (pk fn.ntmps kv2).all noOptB = true)
    (H : SafeKM M P fn O pin w0 σ0 Hs R k (mk fn.ntmps kv2 (h2 ++ voidH szs))) : SafeKM M P fn O pin w0 σ0 Hs R k (mk fn.ntmps kv h) :=
  fun w σ a hm => H w _ a (up_mod hm hkv hh2 hno hno2)
/-- A result with some blocks handed over. -/
theorem RetR.outs {ctr : Ctr} {Q : AV × Heap → Prop} {rs : List AV} {h : Heap} {r : AV} {hs : Heap} (L : List Nat) (hnd : nodupB L = true) (hlt : (L.all fun i => decide (i < h.length)) = true) (hq : Q (r, hs)) (hn : ctr.fresh = true → new2 h L (resV rs) ∧ ∀ i ∈ L, newB (h.getD i .dead))
    (he : eqA2 (exp2 h L (resV rs)) r) (hb : eqH (expH h L) hs) (hl : hs.length = L.length) : RetR ctr 0 Q rs h :=
  ⟨L, hnd, fun i hi => by have := List.all_eq_true.1 hlt i hi; simpa using this, by simp, hn, r, hs, he, hb, hl, hq⟩
/-- The blocks that came in go back. -/
theorem RetR.keep {ctr : Ctr} {m : Nat} {Q : AV × Heap → Prop} {rs : List AV} {h : Heap} {r : AV} {hs : Heap} (L : List Nat) (hnd : nodupB L = true) (hlt : (L.all fun i => decide (i < h.length)) = true) (hj : ∀ j, j < m → L[j]? = some j) (hf : ctr.fresh = false) (hq : Q (r, hs))
    (he : eqA2 (exp2 h L (resV rs)) r) (hb : eqH (expH h L) hs) (hl : hs.length = L.length) : RetR ctr m Q rs h :=
  ⟨L, hnd, fun i hi => by have := List.all_eq_true.1 hlt i hi; simpa using this, hj, (fun hh => absurd hh (by rw [hf]; decide)), r, hs, he, hb, hl, hq⟩
end
end Go.Sx
end

/- Expressions: copies. -/
section
set_option linter.unusedVariables false
set_option linter.unusedSimpArgs false
set_option maxRecDepth 100000
open Go Go.Sx Go.Proofs Go.Nov
namespace Go.Proofs.Tryd
attribute [local simp] eqKV eqA eqA0 eqH eqB eqL eqL0
noncomputable def K5 : List Go.Sx.Item := [.code (Tryd.f5.body.getD .skip)]
noncomputable def K18 : List Go.Sx.Item := [.code (Tryd.f18.body.getD .skip)]
def exD (x : Ex) : AV := .agg [.int .u8 x.kind, .str x.rat, .str x.name, .int .i64 x.date, .sl x.sub.length 5 x.deep]
def twinXC (n : Nat) : Ctr := ctrP false (fun x : Ex => [x.exA]) (fun x => x.size < n ∧ x.size < 2 ^ 40) (fun _ (_ : Unit) => True) (fun x _ => (exD x, []))
def twinXO : Ctr := ctrP false (fun x : Ex => [x.exA]) (fun x => x.size < 2 ^ 40) (fun _ (_ : Unit) => True) (fun x _ => (.agg [.int .u8 x.kind, .str x.rat, .str x.name, .int .i64 x.date, .osl 0 5 0 x.sub.length], [.arr x.sub.length 5 (Ex.exG x.sub)]))
theorem exG_push {s : List Ex} {i : Nat} : eqG (i + 1) 5 (appG i (Ex.exG s) (viewG (listG 5 [.int .u8 (s.getD i Ex.nil).kind, .str (s.getD i Ex.nil).rat, .str (s.getD i Ex.nil).name, .int .i64 (s.getD i Ex.nil).date, .sl (s.getD i Ex.nil).sub.length 5 (s.getD i Ex.nil).deep]) 0)) (Ex.exG s) := by
  intro j o hj ho
  simp only [appG, viewG, listG]
  by_cases h : j < i
  · rw [if_pos h]
  · have : j = i := by omega
    subst this
    rw [if_neg h]
    have e : j - j = 0 := by omega
    match o, ho with
    | 0, _ => simp [e, Ex.exG, Ex.cell]
    | 1, _ => simp [e, Ex.exG, Ex.cell]
    | 2, _ => simp [e, Ex.exG, Ex.cell]
    | 3, _ => simp [e, Ex.exG, Ex.cell]
    | 4, _ => simp [e, Ex.exG, Ex.cell]
def STw (s : List Ex) (i : Nat) : KV := [(1, .ptr 0 0), (2, .ptr 1 0), (3, .osl 2 5 0 i), (7, Ex.exS s), (8, .int .i64 (s.length : Int)), (9, .int .i64 (i : Int))]
def HTw (x : Ex) (i : Nat) : Heap := [.box [.int .u8 x.kind, .str x.rat, .str x.name, .int .i64 x.date, Ex.exS x.sub], .box [.int .u8 0, .str [], .str [], .int .i64 0, .nils], .arr i 5 (Ex.exG x.sub)]
def RTw (x : Ex) : List AV := [.agg [.int .u8 x.kind, .str x.rat, .str x.name, .int .i64 x.date, .osl 2 5 0 x.sub.length]]
def HTw2 (x : Ex) : Heap := [.box [.int .u8 x.kind, .str x.rat, .str x.name, .int .i64 x.date, .osl 2 5 0 x.sub.length], .box [.int .u8 x.kind, .str x.rat, .str x.name, .int .i64 x.date, .osl 2 5 0 x.sub.length], .arr x.sub.length 5 (Ex.exG x.sub)]

theorem twin_run (n : Nat) (ih : CtrOK Tryd.prog 5 (twinXC n)) {O : Nat → Prop} {w0 : World} {C : Ctr} {Q : AV × Heap → Prop} (x : Ex) (h1 : x.size < n + 1) (h2 : x.size < 2 ^ 40) (hR : RetR C 0 Q (RTw x) (HTw2 x)) :
    SafeK Tryd.prog Tryd.f5 O 0 w0 [] (fun _ _ _ => False) (RetR C 0 Q) K5 (entry Tryd.f5 [x.exA]) := by
  rw [Ex.size_eq] at h1 h2
  have hlen := Ex.length_le_sizes x.sub
  refine SafeK.run (k := K5) hmix (G1c_ok ih) [1, 2, 3, 7, 8, 9] 400 (T := Tree.leaf (Leaf2.loop (Prod.fst (lps K5 (0 : Nat))) (Prod.snd (lps K5 (0 : Nat))) [((1 : Nat), AV.ptr (0 : Nat) (0 : Nat)), ((2 : Nat), AV.ptr (1 : Nat) (0 : Nat)), ((3 : Nat), AV.nils), ((7 : Nat), AV.sl (List.length (Ex.sub x)) (5 : Nat) (Ex.exG (Ex.sub x))), ((8 : Nat), AV.int IntKind.i64 (↑(List.length (Ex.sub x)) : Int)), ((9 : Nat), AV.int IntKind.i64 (0 : Int))] [Blk.box [AV.int IntKind.u8 (Ex.kind x), AV.str (Ex.rat x), AV.str (Ex.name x), AV.int IntKind.i64 (Ex.date x), AV.sl (List.length (Ex.sub x)) (5 : Nat) (Ex.exG (Ex.sub x))], Blk.box [AV.int IntKind.u8 (0 : Int), AV.str (Array.toList #[]), AV.str (Array.toList #[]), AV.int IntKind.i64 (0 : Int), AV.nils]])) (by kernel_rfl) ?_
  simp only [Tree.holds, Leafs2, inR, lo, hi, Int.toNat_natCast]
  refine SafeK.bear 3 5 (Ex.exG x.sub) rfl (by decide) (by kernel_rfl) ?_
  refine SafeK.loop (ι := {i : Nat // i ≤ x.sub.length}) (fun i => STw x.sub i.1) (fun i => HTw x i.1) (fun i => x.sub.length - i.1) ⟨0, Nat.zero_le _⟩ 0 ?_ ?_ (by kernel_rfl)
  · exact ⟨by simp [STw, setKV, Ex.exS, eqG_refl], by simp [HTw, Ex.exS, eqG_refl], by kernel_rfl, Nat.zero_le _⟩
  · rintro ⟨i, hil⟩
    refine SafeK.run (k := inside K5 0) hmix (G1c_ok ih) [1, 2, 3, 7, 8, 9] 400 (T := Tree.ite (decide ((↑i : Int) < (↑(List.length (Ex.sub x)) : Int))) (Tree.side ((0 : Int) ≤ (↑i : Int) ∧ (↑i : Int) < (↑(List.length (Ex.sub x)) : Int)) (Tree.ex (fun (x_1 : Ex) => eqL [AV.agg [AV.int IntKind.u8 (Ex.kind (List.getD (Ex.sub x) (Int.toNat (↑i : Int)) Ex.nil)), AV.str (Ex.rat (List.getD (Ex.sub x) (Int.toNat (↑i : Int)) Ex.nil)), AV.str (Ex.name (List.getD (Ex.sub x) (Int.toNat (↑i : Int)) Ex.nil)), AV.int IntKind.i64 (Ex.date (List.getD (Ex.sub x) (Int.toNat (↑i : Int)) Ex.nil)), AV.sl (List.length (Ex.sub (List.getD (Ex.sub x) (Int.toNat (↑i : Int)) Ex.nil))) (5 : Nat) (Ex.deep (List.getD (Ex.sub x) (Int.toNat (↑i : Int)) Ex.nil))]] [AV.agg [AV.int IntKind.u8 (Ex.kind x_1), AV.str (Ex.rat x_1), AV.str (Ex.name x_1), AV.int IntKind.i64 (Ex.date x_1), AV.sl (List.length (Ex.sub x_1)) (5 : Nat) (Ex.exG (Ex.sub x_1))]] ∧ Ex.size x_1 < n ∧ Ex.size x_1 < (1099511627776 : Nat)) fun (n : Ex) => Tree.all (fun (x : Unit) => True) fun (n_1 : Unit) => Tree.side ((0 : Nat) = (0 : Nat) ∧ i ≤ i ∧ (i + (1 : Nat)) * (72 : Nat) ≤ (140737488355328 : Nat)) (Tree.side (inR IntKind.i64 ((↑i : Int) + (1 : Int))) (Tree.leaf (Leaf2.back (0 : Nat) [((1 : Nat), AV.ptr (0 : Nat) (0 : Nat)), ((2 : Nat), AV.ptr (1 : Nat) (0 : Nat)), ((3 : Nat), AV.osl (2 : Nat) (5 : Nat) (0 : Nat) (i + (1 : Nat))), ((7 : Nat), AV.sl (List.length (Ex.sub x)) (5 : Nat) (Ex.exG (Ex.sub x))), ((8 : Nat), AV.int IntKind.i64 (↑(List.length (Ex.sub x)) : Int)), ((9 : Nat), AV.int IntKind.i64 ((↑i : Int) + (1 : Int)))] [Blk.box [AV.int IntKind.u8 (Ex.kind x), AV.str (Ex.rat x), AV.str (Ex.name x), AV.int IntKind.i64 (Ex.date x), AV.sl (List.length (Ex.sub x)) (5 : Nat) (Ex.exG (Ex.sub x))], Blk.box [AV.int IntKind.u8 (0 : Int), AV.str [], AV.str [], AV.int IntKind.i64 (0 : Int), AV.nils], Blk.arr (i + (1 : Nat)) (5 : Nat) (appG i (Ex.exG (Ex.sub x)) (viewG (listG (5 : Nat) [AV.int IntKind.u8 (Ex.kind n), AV.str (Ex.rat n), AV.str (Ex.name n), AV.int IntKind.i64 (Ex.date n), AV.sl (List.length (Ex.sub n)) (5 : Nat) (Ex.deep n)]) (0 : Nat))), Blk.box [AV.int IntKind.u8 (Ex.kind (List.getD (Ex.sub x) (Int.toNat (↑i : Int)) Ex.nil)), AV.str (Ex.rat (List.getD (Ex.sub x) (Int.toNat (↑i : Int)) Ex.nil)), AV.str (Ex.name (List.getD (Ex.sub x) (Int.toNat (↑i : Int)) Ex.nil)), AV.int IntKind.i64 (Ex.date (List.getD (Ex.sub x) (Int.toNat (↑i : Int)) Ex.nil)), AV.sl (List.length (Ex.sub (List.getD (Ex.sub x) (Int.toNat (↑i : Int)) Ex.nil))) (5 : Nat) (Ex.deep (List.getD (Ex.sub x) (Int.toNat (↑i : Int)) Ex.nil))], Blk.arr (1 : Nat) (5 : Nat) (listG (5 : Nat) [AV.int IntKind.u8 (Ex.kind n), AV.str (Ex.rat n), AV.str (Ex.name n), AV.int IntKind.i64 (Ex.date n), AV.sl (List.length (Ex.sub n)) (5 : Nat) (Ex.deep n)])]))))) (Tree.leaf (Leaf2.ret [AV.agg [AV.int IntKind.u8 (Ex.kind x), AV.str (Ex.rat x), AV.str (Ex.name x), AV.int IntKind.i64 (Ex.date x), AV.osl (2 : Nat) (5 : Nat) (0 : Nat) i]] [Blk.box [AV.int IntKind.u8 (Ex.kind x), AV.str (Ex.rat x), AV.str (Ex.name x), AV.int IntKind.i64 (Ex.date x), AV.osl (2 : Nat) (5 : Nat) (0 : Nat) i], Blk.box [AV.int IntKind.u8 (Ex.kind x), AV.str (Ex.rat x), AV.str (Ex.name x), AV.int IntKind.i64 (Ex.date x), AV.osl (2 : Nat) (5 : Nat) (0 : Nat) i], Blk.arr i (5 : Nat) (Ex.exG (Ex.sub x))]))) (by kernel_rfl) ?_
    simp only [Tree.holds, Leafs2, inR, lo, hi, Int.toNat_natCast]
    refine ⟨fun hlt => ?_, fun hge => ?_⟩
    · have hlt : i < x.sub.length := by have := of_decide_eq_true hlt; omega
      have hg := Ex.sizes_get hlt
      refine ⟨by omega, fun _ => ⟨x.sub.getD i Ex.nil, ⟨eqL_exA rfl rfl rfl rfl rfl (Ex.deep_eq _), by omega, by omega⟩, ⟨(), trivial⟩, ?_⟩⟩
      intro _ _
      refine ⟨⟨trivial, Nat.le_refl _, by omega⟩, fun _ => ⟨by omega, fun _ => ?_⟩⟩
      rw [if_pos trivial]
      refine ⟨⟨i + 1, hlt⟩, by show x.sub.length - (i + 1) < x.sub.length - i; omega, by simp [STw, Ex.exS, eqG_refl], ?_, by kernel_rfl, Nat.zero_le _⟩
      exact ⟨⟨⟨rfl, rfl⟩, rfl, rfl, ⟨rfl, rfl⟩, ⟨rfl, rfl, eqG_refl _ _ _⟩, trivial⟩, ⟨⟨rfl, rfl⟩, rfl, rfl, ⟨rfl, rfl⟩, by simp, trivial⟩, ⟨rfl, rfl, exG_push⟩, trivial⟩
    · have hge : i = x.sub.length := by have := of_decide_eq_false hge; omega
      subst hge
      exact hR
theorem twin_frz {C : Ctr} {Q : AV × Heap → Prop} {x : Ex} {h : Heap} {b : Nat} (hC : C.fresh = false) (hb : h[b]? = some (.arr x.sub.length 5 (Ex.exG x.sub))) (hq : Q (exD x, [])) : RetR C 0 Q [.agg [.int .u8 x.kind, .str x.rat, .str x.name, .int .i64 x.date, .osl b 5 0 x.sub.length]] h := by
  refine RetR.out0 hq (fun h => by rw [hC] at h; cases h) ?_
  simp only [resV, exp2, exp1, List.map_cons, List.map_nil, exp0, ren0, posIn, frz1, seqOf, hb, eqA2, eqA, eqL0, eqA0, exD, true_and, and_true]
  simp only [if_true]
  refine ⟨trivial, trivial, fun j o hj ho => ?_⟩
  have := Ex.deep_eq x j o hj ho
  simpa [viewG] using this.symm
theorem twin_step (n : Nat) (ih : CtrOK Tryd.prog 5 (twinXC n)) : CtrOK Tryd.prog 5 (twinXC (n + 1)) := by
  refine fn_ctrP (fn := Tryd.f5) (c := Tryd.f5.body.getD .skip) rfl rfl rfl fun x hx O w0 Q hq => ?_
  exact twin_run n ih x hx.1 hx.2 (twin_frz rfl rfl (hq () trivial))
theorem twinX_ok : CtrOK Tryd.prog 5 (ctrP false (fun x : Ex => [x.exA]) (fun x => x.size < 2 ^ 40) (fun _ (_ : Unit) => True) (fun x _ => (exD x, []))) := ctrP_rec Ex.size twin_step
theorem twinO_ok : CtrOK Tryd.prog 5 twinXO := by
  refine fn_ctrP (fn := Tryd.f5) (c := Tryd.f5.body.getD .skip) rfl rfl rfl fun x hx O w0 Q hq => ?_
  have ih : ∀ n, CtrOK Tryd.prog 5 (twinXC n) := fun n => by
    induction n with
    | zero =>
      intro args hc Q hq _
      simp only [twinXC, ctrP] at hq
      split at hq
      · obtain ⟨x, ⟨_, h, _⟩, _⟩ := hq
        exact absurd h (Nat.not_lt_zero _)
      · exact hq.elim
    | succ n ih => exact twin_step n ih
  refine twin_run x.size (ih _) x (Nat.lt_succ_self _) hx ?_
  refine RetR.out1 2 (by show 2 < 3; decide) (hq () trivial) (fun h => by cases h) ?_ ?_
  · exact ⟨⟨rfl, rfl⟩, rfl, rfl, ⟨rfl, rfl⟩, ⟨rfl, rfl, rfl, rfl⟩, trivial⟩
  · exact ⟨rfl, rfl, eqG_refl _ _ _⟩
def SRt (i : Nat) : KV := [(1, .ptr 0 0), (2, .ptr 1 0), (3, .ptr 2 0), (4, .int .i64 (i : Int))]
def HRt0 (x : Ex) : Heap := [.box [.int .u8 x.kind, .str x.rat, .str x.name, .int .i64 x.date, Ex.exS x.sub], .box [.int .u8 0, .str [], .str [], .int .i64 0, .nils], .box [.int .u8 x.kind, .str x.rat, .str x.name, .int .i64 x.date, .nils]]
def HRt1 (x : Ex) : Heap := [.box [.int .u8 x.kind, .str x.rat, .str x.name, .int .i64 x.date, Ex.exS x.sub], .box [.int .u8 0, .str [], .str [], .int .i64 0, .nils], .box [.int .u8 x.kind, .str x.rat, .str x.name, .int .i64 x.date, .osl 3 5 0 0]]
def HRt (x : Ex) (i : Nat) : Heap := [.box [.int .u8 x.kind, .str x.rat, .str x.name, .int .i64 x.date, Ex.exS x.sub], .box [.int .u8 0, .str [], .str [], .int .i64 0, .nils], .box [.int .u8 x.kind, .str x.rat, .str x.name, .int .i64 x.date, .osl 3 5 0 i], .arr i 5 (Ex.exG x.sub)]

theorem rtwin_step (n : Nat) (ih : CtrOK Tryd.prog 18 (twinXC n)) : CtrOK Tryd.prog 18 (twinXC (n + 1)) := by
  refine fn_ctrP (fn := Tryd.f18) (c := Tryd.f18.body.getD .skip) rfl rfl rfl fun x hx O w0 Q hq => ?_
  obtain ⟨h1, h2⟩ := hx
  replace hq := hq () trivial
  rw [Ex.size_eq] at h1 h2
  have hlen := Ex.length_le_sizes x.sub
  refine SafeK.run (k := K18) hmix (G1c_ok ih) [1, 2, 3, 4] 400 (T := Tree.leaf (Leaf2.loop (Prod.fst (lps K18 (0 : Nat))) (Prod.snd (lps K18 (0 : Nat))) [((1 : Nat), AV.ptr (0 : Nat) (0 : Nat)), ((2 : Nat), AV.ptr (1 : Nat) (0 : Nat)), ((3 : Nat), AV.ptr (2 : Nat) (0 : Nat)), ((4 : Nat), AV.int IntKind.i64 (0 : Int))] [Blk.box [AV.int IntKind.u8 (Ex.kind x), AV.str (Ex.rat x), AV.str (Ex.name x), AV.int IntKind.i64 (Ex.date x), AV.sl (List.length (Ex.sub x)) (5 : Nat) (Ex.exG (Ex.sub x))], Blk.box [AV.int IntKind.u8 (0 : Int), AV.str (Array.toList #[]), AV.str (Array.toList #[]), AV.int IntKind.i64 (0 : Int), AV.nils], Blk.box [AV.int IntKind.u8 (Ex.kind x), AV.str (Ex.rat x), AV.str (Ex.name x), AV.int IntKind.i64 (Ex.date x), AV.nils]])) (by kernel_rfl) ?_
  simp only [Tree.holds, Leafs2, inR, lo, hi, Int.toNat_natCast]
  refine SafeK.up [(5, Ex.exG x.sub)] (SRt 0) (HRt1 x) (by simp [SRt, upKV, upA2, upA1, upA0]) (by simp [HRt1, upH, upB, upL1, upA1, upA0, Ex.exS]) (by kernel_rfl) (by kernel_rfl) ?_
  refine SafeK.loop (ι := {i : Nat // i ≤ x.sub.length}) (fun i => SRt i.1) (fun i => HRt x i.1) (fun i => x.sub.length - i.1) ⟨0, Nat.zero_le _⟩ 0 ?_ ?_ (by kernel_rfl)
  · exact ⟨by simp [SRt], by simp [HRt, HRt1, voidH, Ex.exS, eqG_refl], by kernel_rfl, Nat.zero_le _⟩
  · rintro ⟨i, hil⟩
    refine SafeK.run (k := inside K18 0) hmix (G1c_ok ih) [1, 2, 3, 4] 400 (T := Tree.ite (decide ((↑i : Int) < (↑(List.length (Ex.sub x)) : Int))) (Tree.side ((0 : Int) ≤ (↑i : Int) ∧ (↑i : Int) < (↑(List.length (Ex.sub x)) : Int)) (Tree.ex (fun (x_1 : Ex) => eqL [AV.agg [AV.int IntKind.u8 (Ex.kind (List.getD (Ex.sub x) (Int.toNat (↑i : Int)) Ex.nil)), AV.str (Ex.rat (List.getD (Ex.sub x) (Int.toNat (↑i : Int)) Ex.nil)), AV.str (Ex.name (List.getD (Ex.sub x) (Int.toNat (↑i : Int)) Ex.nil)), AV.int IntKind.i64 (Ex.date (List.getD (Ex.sub x) (Int.toNat (↑i : Int)) Ex.nil)), AV.sl (List.length (Ex.sub (List.getD (Ex.sub x) (Int.toNat (↑i : Int)) Ex.nil))) (5 : Nat) (Ex.deep (List.getD (Ex.sub x) (Int.toNat (↑i : Int)) Ex.nil))]] [AV.agg [AV.int IntKind.u8 (Ex.kind x_1), AV.str (Ex.rat x_1), AV.str (Ex.name x_1), AV.int IntKind.i64 (Ex.date x_1), AV.sl (List.length (Ex.sub x_1)) (5 : Nat) (Ex.exG (Ex.sub x_1))]] ∧ Ex.size x_1 < n ∧ Ex.size x_1 < (1099511627776 : Nat)) fun (n : Ex) => Tree.all (fun (x : Unit) => True) fun (n_1 : Unit) => Tree.side ((0 : Nat) = (0 : Nat) ∧ i ≤ i ∧ (i + (1 : Nat)) * (72 : Nat) ≤ (140737488355328 : Nat)) (Tree.side (inR IntKind.i64 ((↑i : Int) + (1 : Int))) (Tree.leaf (Leaf2.back (0 : Nat) [((1 : Nat), AV.ptr (0 : Nat) (0 : Nat)), ((2 : Nat), AV.ptr (1 : Nat) (0 : Nat)), ((3 : Nat), AV.ptr (2 : Nat) (0 : Nat)), ((4 : Nat), AV.int IntKind.i64 ((↑i : Int) + (1 : Int)))] [Blk.box [AV.int IntKind.u8 (Ex.kind x), AV.str (Ex.rat x), AV.str (Ex.name x), AV.int IntKind.i64 (Ex.date x), AV.sl (List.length (Ex.sub x)) (5 : Nat) (Ex.exG (Ex.sub x))], Blk.box [AV.int IntKind.u8 (0 : Int), AV.str [], AV.str [], AV.int IntKind.i64 (0 : Int), AV.nils], Blk.box [AV.int IntKind.u8 (Ex.kind x), AV.str (Ex.rat x), AV.str (Ex.name x), AV.int IntKind.i64 (Ex.date x), AV.osl (3 : Nat) (5 : Nat) (0 : Nat) (i + (1 : Nat))], Blk.arr (i + (1 : Nat)) (5 : Nat) (appG i (Ex.exG (Ex.sub x)) (viewG (listG (5 : Nat) [AV.int IntKind.u8 (Ex.kind n), AV.str (Ex.rat n), AV.str (Ex.name n), AV.int IntKind.i64 (Ex.date n), AV.sl (List.length (Ex.sub n)) (5 : Nat) (Ex.deep n)]) (0 : Nat))), Blk.arr (1 : Nat) (5 : Nat) (listG (5 : Nat) [AV.int IntKind.u8 (Ex.kind n), AV.str (Ex.rat n), AV.str (Ex.name n), AV.int IntKind.i64 (Ex.date n), AV.sl (List.length (Ex.sub n)) (5 : Nat) (Ex.deep n)])]))))) (Tree.leaf (Leaf2.ret [AV.agg [AV.int IntKind.u8 (Ex.kind x), AV.str (Ex.rat x), AV.str (Ex.name x), AV.int IntKind.i64 (Ex.date x), AV.osl (3 : Nat) (5 : Nat) (0 : Nat) i]] [Blk.box [AV.int IntKind.u8 (Ex.kind x), AV.str (Ex.rat x), AV.str (Ex.name x), AV.int IntKind.i64 (Ex.date x), AV.sl (List.length (Ex.sub x)) (5 : Nat) (Ex.exG (Ex.sub x))], Blk.box [AV.int IntKind.u8 (Ex.kind x), AV.str (Ex.rat x), AV.str (Ex.name x), AV.int IntKind.i64 (Ex.date x), AV.osl (3 : Nat) (5 : Nat) (0 : Nat) i], Blk.box [AV.int IntKind.u8 (Ex.kind x), AV.str (Ex.rat x), AV.str (Ex.name x), AV.int IntKind.i64 (Ex.date x), AV.osl (3 : Nat) (5 : Nat) (0 : Nat) i], Blk.arr i (5 : Nat) (Ex.exG (Ex.sub x))]))) (by kernel_rfl) ?_
    simp only [Tree.holds, Leafs2, inR, lo, hi, Int.toNat_natCast]
    refine ⟨fun hlt => ?_, fun hge => ?_⟩
    · have hlt : i < x.sub.length := by have := of_decide_eq_true hlt; omega
      have hg := Ex.sizes_get hlt
      refine ⟨by omega, fun _ => ⟨x.sub.getD i Ex.nil, ⟨eqL_exA rfl rfl rfl rfl rfl (Ex.deep_eq _), by omega, by omega⟩, ⟨(), trivial⟩, ?_⟩⟩
      intro _ _
      refine ⟨⟨trivial, Nat.le_refl _, by omega⟩, fun _ => ⟨by omega, fun _ => ?_⟩⟩
      rw [if_pos trivial]
      refine ⟨⟨i + 1, hlt⟩, by show x.sub.length - (i + 1) < x.sub.length - i; omega, by simp [SRt], ?_, by kernel_rfl, Nat.zero_le _⟩
      exact ⟨⟨⟨rfl, rfl⟩, rfl, rfl, ⟨rfl, rfl⟩, ⟨rfl, rfl, eqG_refl _ _ _⟩, trivial⟩, ⟨⟨rfl, rfl⟩, rfl, rfl, ⟨rfl, rfl⟩, by simp, trivial⟩, ⟨⟨rfl, rfl⟩, rfl, rfl, ⟨rfl, rfl⟩, ⟨rfl, rfl, rfl, rfl⟩, trivial⟩, ⟨rfl, rfl, exG_push⟩, trivial⟩
    · have hge : i = x.sub.length := by have := of_decide_eq_false hge; omega
      subst hge
      exact twin_frz rfl rfl hq
def twinXAll : Ctr := ctrP false (fun x : Ex => [x.exA]) (fun x => x.size < 2 ^ 40) (fun _ (_ : Unit) => True) (fun x _ => (exD x, []))
theorem rtwinX_ok : CtrOK Tryd.prog 18 twinXAll := ctrP_rec Ex.size rtwin_step
end Go.Proofs.Tryd
end

/- The law: expressions. -/
section
set_option linter.unusedVariables false
set_option linter.unusedSimpArgs false
set_option maxRecDepth 100000
open Go Go.Sx Go.Proofs Go.Nov
namespace Go.Proofs.Tryd
attribute [local simp] eqKV eqA eqA0 eqH eqB eqL eqL0
noncomputable def K3 : List Go.Sx.Item := [.code (Tryd.f3.body.getD .skip)]
def GLx : Nat → Option Ctr := fun f => if f = 4 then some (greatX) else if f = 5 then some (twinXO) else if f = 6 then some (nameC) else if f = 7 then some (nameC) else if f = 8 then some (checkXC) else if f = 9 then some (checkXC) else if f = 10 then some (numXC 1) else if f = 11 then some (numXC 1) else if f = 12 then some (numXC 2) else if f = 13 then some (numXC 2) else if f = 14 then some (sizeAllC) else if f = 15 then some (sizeAllC) else if f = 16 then some (sameXAll) else if f = 17 then some (sameXAll) else if f = 18 then some (twinXAll) else none
theorem GLx_ok : ∀ g c, GLx g = some c → CtrOK Tryd.prog g c := by
  intro g c h
  unfold GLx at h
  by_cases hg : g = 4
  · subst hg
    rw [if_pos rfl] at h
    cases h
    exact greatX_ok
  rw [if_neg hg] at h
  clear hg
  by_cases hg : g = 5
  · subst hg
    rw [if_pos rfl] at h
    cases h
    exact twinO_ok
  rw [if_neg hg] at h
  clear hg
  by_cases hg : g = 6
  · subst hg
    rw [if_pos rfl] at h
    cases h
    exact name_ok
  rw [if_neg hg] at h
  clear hg
  by_cases hg : g = 7
  · subst hg
    rw [if_pos rfl] at h
    cases h
    exact rname_ok
  rw [if_neg hg] at h
  clear hg
  by_cases hg : g = 8
  · subst hg
    rw [if_pos rfl] at h
    cases h
    exact checkX_ok
  rw [if_neg hg] at h
  clear hg
  by_cases hg : g = 9
  · subst hg
    rw [if_pos rfl] at h
    cases h
    exact rcheckX_ok
  rw [if_neg hg] at h
  clear hg
  by_cases hg : g = 10
  · subst hg
    rw [if_pos rfl] at h
    cases h
    exact num_ok
  rw [if_neg hg] at h
  clear hg
  by_cases hg : g = 11
  · subst hg
    rw [if_pos rfl] at h
    cases h
    exact rnum_ok
  rw [if_neg hg] at h
  clear hg
  by_cases hg : g = 12
  · subst hg
    rw [if_pos rfl] at h
    cases h
    exact truth_ok
  rw [if_neg hg] at h
  clear hg
  by_cases hg : g = 13
  · subst hg
    rw [if_pos rfl] at h
    cases h
    exact rtruth_ok
  rw [if_neg hg] at h
  clear hg
  by_cases hg : g = 14
  · subst hg
    rw [if_pos rfl] at h
    cases h
    exact size_ok
  rw [if_neg hg] at h
  clear hg
  by_cases hg : g = 15
  · subst hg
    rw [if_pos rfl] at h
    cases h
    exact rsize_ok
  rw [if_neg hg] at h
  clear hg
  by_cases hg : g = 16
  · subst hg
    rw [if_pos rfl] at h
    cases h
    exact sameX_ok
  rw [if_neg hg] at h
  clear hg
  by_cases hg : g = 17
  · subst hg
    rw [if_pos rfl] at h
    cases h
    exact rsameX_ok
  rw [if_neg hg] at h
  clear hg
  by_cases hg : g = 18
  · subst hg
    rw [if_pos rfl] at h
    cases h
    exact rtwinX_ok
  rw [if_neg hg] at h
  clear hg
  cases h

def lawX : Ctr := ctrP true (fun p : Ex × Ex × List UInt8 => [p.1.exA, p.2.1.exA, .str p.2.2]) (fun p => p.1.thin ∧ p.2.1.thin ∧ p.2.2.length < 2 ^ 60) (fun _ r => r = true) (fun _ (r : Bool) => (.bool r, []))
def SLx (i : Nat) : KV := [(3, .ptr 0 0), (7, .ptr 3 0), (8, .bool true), (9, .ptr 4 0), (10, .int .i64 (i : Int)), (83, .undef), (84, .undef), (85, .undef)]
def HLx (x : Ex) (g : Nat → Nat → AV) : Heap := [.box [.int .u8 x.kind, .str x.rat, .str x.name, .int .i64 x.date, Ex.exS x.sub], .dead, .arr x.sub.length 5 g, .box [.int .u8 x.kind, .str x.rat, .str x.name, .int .i64 x.date, .osl 2 5 0 x.sub.length], .box [.int .u8 x.kind, .str x.rat, .str x.name, .int .i64 x.date, .sl x.sub.length 5 x.deep]]
theorem lawX_ok : CtrOK Tryd.prog 3 lawX := by
  refine fn_ctrP (fn := Tryd.f3) (c := Tryd.f3.body.getD .skip) rfl rfl rfl fun p hp O w0 Q hq => ?_
  obtain ⟨x, y, s⟩ := p
  obtain ⟨h1, h2, h3⟩ := hp
  simp only at h1 h2 h3 hq
  replace hq := hq _ rfl
  refine SafeK.run (k := K3) hmix GLx_ok [3, 7, 8, 9, 10, 83, 84, 85] 400 (T := Tree.ex (fun (x_1 : Ex) => eqL [AV.agg [AV.int IntKind.u8 (Ex.kind x), AV.str (Ex.rat x), AV.str (Ex.name x), AV.int IntKind.i64 (Ex.date x), AV.sl (List.length (Ex.sub x)) (5 : Nat) (Ex.exG (Ex.sub x))]] [AV.agg [AV.int IntKind.u8 (Ex.kind x_1), AV.str (Ex.rat x_1), AV.str (Ex.name x_1), AV.int IntKind.i64 (Ex.date x_1), AV.sl (List.length (Ex.sub x_1)) (5 : Nat) (Ex.exG (Ex.sub x_1))]] ∧ Ex.thin x_1) fun (n : Ex) => Tree.all (fun (r : Bool) => r = false → Ex.size n ≤ (600 : Nat) ∧ Ex.bytesE n ≤ (3000 : Nat)) fun (n : Bool) => Tree.ex (fun (x : Ex) => n = false → eqL [AV.agg [AV.int IntKind.u8 (Ex.kind y), AV.str (Ex.rat y), AV.str (Ex.name y), AV.int IntKind.i64 (Ex.date y), AV.sl (List.length (Ex.sub y)) (5 : Nat) (Ex.exG (Ex.sub y))]] [AV.agg [AV.int IntKind.u8 (Ex.kind x), AV.str (Ex.rat x), AV.str (Ex.name x), AV.int IntKind.i64 (Ex.date x), AV.sl (List.length (Ex.sub x)) (5 : Nat) (Ex.exG (Ex.sub x))]] ∧ Ex.thin x) fun (n_1 : Ex) => Tree.all (fun (x : Bool) => n = false → x = false → Ex.size n_1 ≤ (600 : Nat) ∧ Ex.bytesE n_1 ≤ (3000 : Nat)) fun (n_2 : Bool) => Tree.ite (bif n then true else n_2) (Tree.leaf (Leaf2.ret [AV.bool true] [Blk.box [AV.int IntKind.u8 (Ex.kind x), AV.str (Ex.rat x), AV.str (Ex.name x), AV.int IntKind.i64 (Ex.date x), AV.sl (List.length (Ex.sub x)) (5 : Nat) (Ex.exG (Ex.sub x))], Blk.box [AV.int IntKind.u8 (Ex.kind y), AV.str (Ex.rat y), AV.str (Ex.name y), AV.int IntKind.i64 (Ex.date y), AV.sl (List.length (Ex.sub y)) (5 : Nat) (Ex.exG (Ex.sub y))]])) (Tree.ex (fun (x_1 : Ex) => eqL [AV.agg [AV.int IntKind.u8 (Ex.kind x), AV.str (Ex.rat x), AV.str (Ex.name x), AV.int IntKind.i64 (Ex.date x), AV.sl (List.length (Ex.sub x)) (5 : Nat) (Ex.exG (Ex.sub x))]] [AV.agg [AV.int IntKind.u8 (Ex.kind x_1), AV.str (Ex.rat x_1), AV.str (Ex.name x_1), AV.int IntKind.i64 (Ex.date x_1), AV.sl (List.length (Ex.sub x_1)) (5 : Nat) (Ex.exG (Ex.sub x_1))]] ∧ Ex.size x_1 < (1099511627776 : Nat)) fun (n : Ex) => Tree.all (fun (x : Unit) => True) fun (n_3 : Unit) => Tree.ex (fun (x : List UInt8) => eqL [AV.str s] [AV.str x] ∧ List.length x < (4611686018427387904 : Nat)) fun (n_4 : List UInt8) => Tree.all (fun (r : Bool) => r = nameB n_4) fun (n_5 : Bool) => Tree.ex (fun (x : List UInt8) => eqL [AV.str s] [AV.str x] ∧ List.length x < (4611686018427387904 : Nat)) fun (n_6 : List UInt8) => Tree.all (fun (r : Bool) => r = nameB n_6) fun (n_7 : Bool) => Tree.ex (fun (x_1 : Ex) => (n_5 == n_7) = true → eqL [AV.agg [AV.int IntKind.u8 (Ex.kind x), AV.str (Ex.rat x), AV.str (Ex.name x), AV.int IntKind.i64 (Ex.date x), AV.sl (List.length (Ex.sub x)) (5 : Nat) (Ex.exG (Ex.sub x))]] [AV.agg [AV.int IntKind.u8 (Ex.kind x_1), AV.str (Ex.rat x_1), AV.str (Ex.name x_1), AV.int IntKind.i64 (Ex.date x_1), AV.sl (List.length (Ex.sub x_1)) (5 : Nat) (Ex.exG (Ex.sub x_1))]] ∧ Ex.size x_1 < (1099511627776 : Nat) ∧ Ex.bytesE x_1 < (1099511627776 : Nat)) fun (n_8 : Ex) => Tree.all (fun (x : Int) => (n_5 == n_7) = true → x = Ex.errX n_8) fun (n_9 : Int) => Tree.ex (fun (x_1 : Ex) => (n_5 == n_7) = true → eqL [AV.agg [AV.int IntKind.u8 (Ex.kind x), AV.str (Ex.rat x), AV.str (Ex.name x), AV.int IntKind.i64 (Ex.date x), AV.sl (List.length (Ex.sub x)) (5 : Nat) (Ex.exG (Ex.sub x))]] [AV.agg [AV.int IntKind.u8 (Ex.kind x_1), AV.str (Ex.rat x_1), AV.str (Ex.name x_1), AV.int IntKind.i64 (Ex.date x_1), AV.sl (List.length (Ex.sub x_1)) (5 : Nat) (Ex.exG (Ex.sub x_1))]] ∧ Ex.size x_1 < (1099511627776 : Nat) ∧ Ex.bytesE x_1 < (1099511627776 : Nat)) fun (n_10 : Ex) => Tree.all (fun (x : Int) => (n_5 == n_7) = true → x = Ex.errX n_10) fun (n_11 : Int) => Tree.ex (fun (x_1 : Ex) => (bif n_5 == n_7 then decide (n_9 = n_11) else false) = true → eqL [AV.agg [AV.int IntKind.u8 (Ex.kind x), AV.str (Ex.rat x), AV.str (Ex.name x), AV.int IntKind.i64 (Ex.date x), AV.sl (List.length (Ex.sub x)) (5 : Nat) (Ex.exG (Ex.sub x))]] [AV.agg [AV.int IntKind.u8 (Ex.kind x_1), AV.str (Ex.rat x_1), AV.str (Ex.name x_1), AV.int IntKind.i64 (Ex.date x_1), AV.sl (List.length (Ex.sub x_1)) (5 : Nat) (Ex.exG (Ex.sub x_1))]] ∧ Ex.size x_1 < (1099511627776 : Nat) ∧ Ex.bytesE x_1 < (1099511627776 : Nat)) fun (n_12 : Ex) => Tree.all (fun (x : Bool) => (bif n_5 == n_7 then decide (n_9 = n_11) else false) = true → x = (decide (Ex.errX n_12 = (0 : Int)) && decide (Ex.sortE n_12 = (1 : Int)))) fun (n_13 : Bool) => Tree.ex (fun (x_1 : Ex) => (bif n_5 == n_7 then decide (n_9 = n_11) else false) = true → eqL [AV.agg [AV.int IntKind.u8 (Ex.kind x), AV.str (Ex.rat x), AV.str (Ex.name x), AV.int IntKind.i64 (Ex.date x), AV.sl (List.length (Ex.sub x)) (5 : Nat) (Ex.exG (Ex.sub x))]] [AV.agg [AV.int IntKind.u8 (Ex.kind x_1), AV.str (Ex.rat x_1), AV.str (Ex.name x_1), AV.int IntKind.i64 (Ex.date x_1), AV.sl (List.length (Ex.sub x_1)) (5 : Nat) (Ex.exG (Ex.sub x_1))]] ∧ Ex.size x_1 < (1099511627776 : Nat) ∧ Ex.bytesE x_1 < (1099511627776 : Nat)) fun (n_14 : Ex) => Tree.all (fun (x : Bool) => (bif n_5 == n_7 then decide (n_9 = n_11) else false) = true → x = (decide (Ex.errX n_14 = (0 : Int)) && decide (Ex.sortE n_14 = (1 : Int)))) fun (n_15 : Bool) => Tree.ex (fun (x_1 : Ex) => (bif bif n_5 == n_7 then decide (n_9 = n_11) else false then n_13 == n_15 else false) = true → eqL [AV.agg [AV.int IntKind.u8 (Ex.kind x), AV.str (Ex.rat x), AV.str (Ex.name x), AV.int IntKind.i64 (Ex.date x), AV.sl (List.length (Ex.sub x)) (5 : Nat) (Ex.exG (Ex.sub x))]] [AV.agg [AV.int IntKind.u8 (Ex.kind x_1), AV.str (Ex.rat x_1), AV.str (Ex.name x_1), AV.int IntKind.i64 (Ex.date x_1), AV.sl (List.length (Ex.sub x_1)) (5 : Nat) (Ex.exG (Ex.sub x_1))]] ∧ Ex.size x_1 < (1099511627776 : Nat) ∧ Ex.bytesE x_1 < (1099511627776 : Nat)) fun (n_16 : Ex) => Tree.all (fun (x : Bool) => (bif bif n_5 == n_7 then decide (n_9 = n_11) else false then n_13 == n_15 else false) = true → x = (decide (Ex.errX n_16 = (0 : Int)) && decide (Ex.sortE n_16 = (2 : Int)))) fun (n_17 : Bool) => Tree.ex (fun (x_1 : Ex) => (bif bif n_5 == n_7 then decide (n_9 = n_11) else false then n_13 == n_15 else false) = true → eqL [AV.agg [AV.int IntKind.u8 (Ex.kind x), AV.str (Ex.rat x), AV.str (Ex.name x), AV.int IntKind.i64 (Ex.date x), AV.sl (List.length (Ex.sub x)) (5 : Nat) (Ex.exG (Ex.sub x))]] [AV.agg [AV.int IntKind.u8 (Ex.kind x_1), AV.str (Ex.rat x_1), AV.str (Ex.name x_1), AV.int IntKind.i64 (Ex.date x_1), AV.sl (List.length (Ex.sub x_1)) (5 : Nat) (Ex.exG (Ex.sub x_1))]] ∧ Ex.size x_1 < (1099511627776 : Nat) ∧ Ex.bytesE x_1 < (1099511627776 : Nat)) fun (n_18 : Ex) => Tree.all (fun (x : Bool) => (bif bif n_5 == n_7 then decide (n_9 = n_11) else false then n_13 == n_15 else false) = true → x = (decide (Ex.errX n_18 = (0 : Int)) && decide (Ex.sortE n_18 = (2 : Int)))) fun (n_19 : Bool) => Tree.ex (fun (x_1 : Ex) => (bif bif bif n_5 == n_7 then decide (n_9 = n_11) else false then n_13 == n_15 else false then n_17 == n_19 else false) = true → eqL [AV.agg [AV.int IntKind.u8 (Ex.kind x), AV.str (Ex.rat x), AV.str (Ex.name x), AV.int IntKind.i64 (Ex.date x), AV.sl (List.length (Ex.sub x)) (5 : Nat) (Ex.exG (Ex.sub x))]] [AV.agg [AV.int IntKind.u8 (Ex.kind x_1), AV.str (Ex.rat x_1), AV.str (Ex.name x_1), AV.int IntKind.i64 (Ex.date x_1), AV.sl (List.length (Ex.sub x_1)) (5 : Nat) (Ex.exG (Ex.sub x_1))]] ∧ Ex.size x_1 < (4611686018427387904 : Nat)) fun (n_20 : Ex) => Tree.all (fun (x : Nat) => (bif bif bif n_5 == n_7 then decide (n_9 = n_11) else false then n_13 == n_15 else false then n_17 == n_19 else false) = true → x = Ex.size n_20) fun (n_21 : Nat) => Tree.ex (fun (x_1 : Ex) => (bif bif bif n_5 == n_7 then decide (n_9 = n_11) else false then n_13 == n_15 else false then n_17 == n_19 else false) = true → eqL [AV.agg [AV.int IntKind.u8 (Ex.kind x), AV.str (Ex.rat x), AV.str (Ex.name x), AV.int IntKind.i64 (Ex.date x), AV.sl (List.length (Ex.sub x)) (5 : Nat) (Ex.exG (Ex.sub x))]] [AV.agg [AV.int IntKind.u8 (Ex.kind x_1), AV.str (Ex.rat x_1), AV.str (Ex.name x_1), AV.int IntKind.i64 (Ex.date x_1), AV.sl (List.length (Ex.sub x_1)) (5 : Nat) (Ex.exG (Ex.sub x_1))]] ∧ Ex.size x_1 < (4611686018427387904 : Nat)) fun (n_22 : Ex) => Tree.all (fun (x : Nat) => (bif bif bif n_5 == n_7 then decide (n_9 = n_11) else false then n_13 == n_15 else false then n_17 == n_19 else false) = true → x = Ex.size n_22) fun (n_23 : Nat) => Tree.ex (fun (x_1 : Ex × Ex) => (bif bif bif bif n_5 == n_7 then decide (n_9 = n_11) else false then n_13 == n_15 else false then n_17 == n_19 else false then decide ((↑n_21 : Int) = (↑n_23 : Int)) else false) = true → eqL [AV.agg [AV.int IntKind.u8 (Ex.kind x), AV.str (Ex.rat x), AV.str (Ex.name x), AV.int IntKind.i64 (Ex.date x), AV.sl (List.length (Ex.sub x)) (5 : Nat) (Ex.exG (Ex.sub x))], AV.agg [AV.int IntKind.u8 (Ex.kind y), AV.str (Ex.rat y), AV.str (Ex.name y), AV.int IntKind.i64 (Ex.date y), AV.sl (List.length (Ex.sub y)) (5 : Nat) (Ex.exG (Ex.sub y))]] [AV.agg [AV.int IntKind.u8 (Ex.kind (Prod.fst x_1)), AV.str (Ex.rat (Prod.fst x_1)), AV.str (Ex.name (Prod.fst x_1)), AV.int IntKind.i64 (Ex.date (Prod.fst x_1)), AV.sl (List.length (Ex.sub (Prod.fst x_1))) (5 : Nat) (Ex.exG (Ex.sub (Prod.fst x_1)))], AV.agg [AV.int IntKind.u8 (Ex.kind (Prod.snd x_1)), AV.str (Ex.rat (Prod.snd x_1)), AV.str (Ex.name (Prod.snd x_1)), AV.int IntKind.i64 (Ex.date (Prod.snd x_1)), AV.sl (List.length (Ex.sub (Prod.snd x_1))) (5 : Nat) (Ex.exG (Ex.sub (Prod.snd x_1)))]] ∧ Ex.size (Prod.fst x_1) < (1152921504606846976 : Nat)) fun (n_24 : Ex × Ex) => Tree.all (fun (x : Bool) => (bif bif bif bif n_5 == n_7 then decide (n_9 = n_11) else false then n_13 == n_15 else false then n_17 == n_19 else false then decide ((↑n_21 : Int) = (↑n_23 : Int)) else false) = true → (x = true ↔ Prod.fst n_24 = Prod.snd n_24)) fun (n_25 : Bool) => Tree.ex (fun (x_1 : Ex × Ex) => (bif bif bif bif n_5 == n_7 then decide (n_9 = n_11) else false then n_13 == n_15 else false then n_17 == n_19 else false then decide ((↑n_21 : Int) = (↑n_23 : Int)) else false) = true → eqL [AV.agg [AV.int IntKind.u8 (Ex.kind x), AV.str (Ex.rat x), AV.str (Ex.name x), AV.int IntKind.i64 (Ex.date x), AV.sl (List.length (Ex.sub x)) (5 : Nat) (Ex.exG (Ex.sub x))], AV.agg [AV.int IntKind.u8 (Ex.kind y), AV.str (Ex.rat y), AV.str (Ex.name y), AV.int IntKind.i64 (Ex.date y), AV.sl (List.length (Ex.sub y)) (5 : Nat) (Ex.exG (Ex.sub y))]] [AV.agg [AV.int IntKind.u8 (Ex.kind (Prod.fst x_1)), AV.str (Ex.rat (Prod.fst x_1)), AV.str (Ex.name (Prod.fst x_1)), AV.int IntKind.i64 (Ex.date (Prod.fst x_1)), AV.sl (List.length (Ex.sub (Prod.fst x_1))) (5 : Nat) (Ex.exG (Ex.sub (Prod.fst x_1)))], AV.agg [AV.int IntKind.u8 (Ex.kind (Prod.snd x_1)), AV.str (Ex.rat (Prod.snd x_1)), AV.str (Ex.name (Prod.snd x_1)), AV.int IntKind.i64 (Ex.date (Prod.snd x_1)), AV.sl (List.length (Ex.sub (Prod.snd x_1))) (5 : Nat) (Ex.exG (Ex.sub (Prod.snd x_1)))]] ∧ Ex.size (Prod.fst x_1) < (1152921504606846976 : Nat)) fun (n_26 : Ex × Ex) => Tree.all (fun (x : Bool) => (bif bif bif bif n_5 == n_7 then decide (n_9 = n_11) else false then n_13 == n_15 else false then n_17 == n_19 else false then decide ((↑n_21 : Int) = (↑n_23 : Int)) else false) = true → (x = true ↔ Prod.fst n_26 = Prod.snd n_26)) fun (n_27 : Bool) => Tree.ex (fun (x_1 : Ex × Ex) => (bif bif bif bif bif n_5 == n_7 then decide (n_9 = n_11) else false then n_13 == n_15 else false then n_17 == n_19 else false then decide ((↑n_21 : Int) = (↑n_23 : Int)) else false then n_25 == n_27 else false) = true → eqL [AV.agg [AV.int IntKind.u8 (Ex.kind n), AV.str (Ex.rat n), AV.str (Ex.name n), AV.int IntKind.i64 (Ex.date n), AV.sl (List.length (Ex.sub n)) (5 : Nat) (viewG (Ex.exG (Ex.sub n)) (0 : Nat))], AV.agg [AV.int IntKind.u8 (Ex.kind x), AV.str (Ex.rat x), AV.str (Ex.name x), AV.int IntKind.i64 (Ex.date x), AV.sl (List.length (Ex.sub x)) (5 : Nat) (Ex.exG (Ex.sub x))]] [AV.agg [AV.int IntKind.u8 (Ex.kind (Prod.fst x_1)), AV.str (Ex.rat (Prod.fst x_1)), AV.str (Ex.name (Prod.fst x_1)), AV.int IntKind.i64 (Ex.date (Prod.fst x_1)), AV.sl (List.length (Ex.sub (Prod.fst x_1))) (5 : Nat) (Ex.exG (Ex.sub (Prod.fst x_1)))], AV.agg [AV.int IntKind.u8 (Ex.kind (Prod.snd x_1)), AV.str (Ex.rat (Prod.snd x_1)), AV.str (Ex.name (Prod.snd x_1)), AV.int IntKind.i64 (Ex.date (Prod.snd x_1)), AV.sl (List.length (Ex.sub (Prod.snd x_1))) (5 : Nat) (Ex.exG (Ex.sub (Prod.snd x_1)))]] ∧ Ex.size (Prod.fst x_1) < (1152921504606846976 : Nat)) fun (n_28 : Ex × Ex) => Tree.all (fun (x : Bool) => (bif bif bif bif bif n_5 == n_7 then decide (n_9 = n_11) else false then n_13 == n_15 else false then n_17 == n_19 else false then decide ((↑n_21 : Int) = (↑n_23 : Int)) else false then n_25 == n_27 else false) = true → (x = true ↔ Prod.fst n_28 = Prod.snd n_28)) fun (n_29 : Bool) => Tree.ex (fun (x_1 : Ex) => eqL [AV.agg [AV.int IntKind.u8 (Ex.kind x), AV.str (Ex.rat x), AV.str (Ex.name x), AV.int IntKind.i64 (Ex.date x), AV.sl (List.length (Ex.sub x)) (5 : Nat) (Ex.exG (Ex.sub x))]] [AV.agg [AV.int IntKind.u8 (Ex.kind x_1), AV.str (Ex.rat x_1), AV.str (Ex.name x_1), AV.int IntKind.i64 (Ex.date x_1), AV.sl (List.length (Ex.sub x_1)) (5 : Nat) (Ex.exG (Ex.sub x_1))]] ∧ Ex.size x_1 < (1099511627776 : Nat)) fun (n_30 : Ex) => Tree.all (fun (x : Unit) => True) fun (n_31 : Unit) => Tree.leaf (Leaf2.loop (Prod.fst (lps K3 (0 : Nat))) (Prod.snd (lps K3 (0 : Nat))) [((3 : Nat), AV.ptr (0 : Nat) (0 : Nat)), ((7 : Nat), AV.ptr (3 : Nat) (0 : Nat)), ((8 : Nat), AV.bool (bif bif bif bif bif bif n_5 == n_7 then decide (n_9 = n_11) else false then n_13 == n_15 else false then n_17 == n_19 else false then decide ((↑n_21 : Int) = (↑n_23 : Int)) else false then n_25 == n_27 else false then n_29 else false)), ((9 : Nat), AV.ptr (4 : Nat) (0 : Nat)), ((10 : Nat), AV.int IntKind.i64 (0 : Int)), ((83 : Nat), AV.undef), ((84 : Nat), AV.undef), ((85 : Nat), AV.undef)] [Blk.box [AV.int IntKind.u8 (Ex.kind x), AV.str (Ex.rat x), AV.str (Ex.name x), AV.int IntKind.i64 (Ex.date x), AV.sl (List.length (Ex.sub x)) (5 : Nat) (Ex.exG (Ex.sub x))], Blk.box [AV.int IntKind.u8 (Ex.kind y), AV.str (Ex.rat y), AV.str (Ex.name y), AV.int IntKind.i64 (Ex.date y), AV.sl (List.length (Ex.sub y)) (5 : Nat) (Ex.exG (Ex.sub y))], Blk.arr (List.length (Ex.sub n)) (5 : Nat) (Ex.exG (Ex.sub n)), Blk.box [AV.int IntKind.u8 (Ex.kind n), AV.str (Ex.rat n), AV.str (Ex.name n), AV.int IntKind.i64 (Ex.date n), AV.osl (2 : Nat) (5 : Nat) (0 : Nat) (List.length (Ex.sub n))], Blk.box [AV.int IntKind.u8 (Ex.kind n_30), AV.str (Ex.rat n_30), AV.str (Ex.name n_30), AV.int IntKind.i64 (Ex.date n_30), AV.sl (List.length (Ex.sub n_30)) (5 : Nat) (Ex.deep n_30)]]))) (by kernel_rfl) ?_
  simp only [Tree.holds, Leafs2, inR, lo, hi, Int.toNat_natCast]
  refine ⟨x, ⟨eqX x, h1⟩, ⟨true, fun h => by cases h⟩, ?_⟩
  intro g1 hg1
  refine ⟨y, fun _ => ⟨eqX y, h2⟩, ⟨true, fun _ h => by cases h⟩, ?_⟩
  intro g2 hg2
  refine ⟨fun _ => RetR.scal hq rfl (by simp [resV]), fun hg => ?_⟩
  have hgg : g1 = false ∧ g2 = false := by cases g1 <;> cases g2 <;> simp at hg ⊢
  obtain ⟨rfl, rfl⟩ := hgg
  obtain ⟨hx1, hx2⟩ := hg1 rfl
  obtain ⟨hy1, hy2⟩ := hg2 rfl rfl
  clear hg hg1 hg2 h1 h2
  refine ⟨x, ⟨eqX x, by omega⟩, ⟨(), trivial⟩, ?_⟩
  intro _ _
  refine ⟨s, ⟨by simp, by omega⟩, ⟨_, rfl⟩, ?_⟩
  rintro _ rfl
  refine ⟨s, ⟨by simp, by omega⟩, ⟨_, rfl⟩, ?_⟩
  rintro _ rfl
  have e1 : (nameB s == nameB s) = true := by simp
  simp only [e1, cond_true, true_implies]
  refine ⟨x, ⟨eqX x, by omega, by omega⟩, ⟨_, rfl⟩, ?_⟩
  rintro _ rfl
  refine ⟨x, ⟨eqX x, by omega, by omega⟩, ⟨_, rfl⟩, ?_⟩
  rintro _ rfl
  simp only [decide_true, cond_true, true_implies]
  iterate 2
    refine ⟨x, ⟨eqX x, by omega, by omega⟩, ⟨_, rfl⟩, ?_⟩
    rintro _ rfl
  simp only [BEq.rfl, cond_true, true_implies]
  iterate 2
    refine ⟨x, ⟨eqX x, by omega, by omega⟩, ⟨_, rfl⟩, ?_⟩
    rintro _ rfl
  simp only [BEq.rfl, cond_true, true_implies]
  iterate 2
    refine ⟨x, ⟨eqX x, by omega⟩, ⟨_, rfl⟩, ?_⟩
    rintro _ rfl
  simp only [decide_true, cond_true, true_implies]
  refine ⟨(x, y), ⟨⟨(eqX x).1, (eqX y).1, trivial⟩, by show x.size < _; omega⟩, ex_bool _, ?_⟩
  intro b1 hb1
  refine ⟨(x, y), ⟨⟨(eqX x).1, (eqX y).1, trivial⟩, by show x.size < _; omega⟩, ex_bool _, ?_⟩
  intro b2 hb2
  have hbb : b1 = b2 := by
    by_cases h : x = y
    · rw [hb1.2 h, hb2.2 h]
    · cases b1 with
      | true => exact absurd (hb1.1 rfl) h
      | false =>
        cases b2 with
        | true => exact absurd (hb2.1 rfl) h
        | false => rfl
  subst hbb
  clear hb1 hb2
  simp only [BEq.rfl, cond_true, true_implies]
  refine ⟨(x, x), ⟨⟨⟨⟨rfl, rfl⟩, rfl, rfl, ⟨rfl, rfl⟩, ⟨rfl, rfl, fun j o _ _ => by simp [viewG]⟩, trivial⟩, (eqX x).1, trivial⟩, by show x.size < _; omega⟩, ex_bool _, ?_⟩
  intro b2 hb2
  have hb2 : b2 = true := hb2.2 rfl
  subst hb2
  refine ⟨x, ⟨eqX x, by omega⟩, ⟨(), trivial⟩, ?_⟩
  intro _
  have hlen := Ex.length_le_sizes x.sub
  rw [Ex.size_eq] at hx1
  refine SafeK.loop (ι := {p : Nat × (Nat → Nat → AV) // p.1 ≤ x.sub.length}) (fun p => SLx p.1.1) (fun p => HLx x p.1.2) (fun p => x.sub.length - p.1.1) ⟨(0, Ex.exG x.sub), Nat.zero_le _⟩ 0 ?_ ?_ (by kernel_rfl)
  · exact ⟨by simp [SLx], by simp [HLx, Ex.exS, eqB, eqG_refl], by kernel_rfl, Nat.zero_le _⟩
  rintro ⟨⟨i, g⟩, hil⟩
  simp only at hil
  refine SafeK.run (k := inside K3 0) hmix GLx_ok [3, 7, 8, 9, 10, 83, 84, 85] 400 (T := Tree.ite (decide ((↑i : Int) < (↑(List.length (Ex.sub x)) : Int))) (Tree.side ((0 : Int) ≤ (↑i : Int) ∧ (↑i : Int) < (↑(List.length (Ex.sub x)) : Int)) (Tree.side (inR IntKind.i64 ((↑i : Int) + (1 : Int))) (Tree.leaf (Leaf2.back (0 : Nat) [((3 : Nat), AV.ptr (0 : Nat) (0 : Nat)), ((7 : Nat), AV.ptr (3 : Nat) (0 : Nat)), ((8 : Nat), AV.bool true), ((9 : Nat), AV.ptr (4 : Nat) (0 : Nat)), ((10 : Nat), AV.int IntKind.i64 ((↑i : Int) + (1 : Int))), ((83 : Nat), AV.undef), ((84 : Nat), AV.undef), ((85 : Nat), AV.undef)] [Blk.box [AV.int IntKind.u8 (Ex.kind x), AV.str (Ex.rat x), AV.str (Ex.name x), AV.int IntKind.i64 (Ex.date x), AV.sl (List.length (Ex.sub x)) (5 : Nat) (Ex.exG (Ex.sub x))], Blk.dead, Blk.arr (List.length (Ex.sub x)) (5 : Nat) (updG g ((0 : Nat) + Int.toNat (↑i : Int)) (0 : Nat) [AV.int IntKind.u8 (77 : Int)]), Blk.box [AV.int IntKind.u8 (Ex.kind x), AV.str (Ex.rat x), AV.str (Ex.name x), AV.int IntKind.i64 (Ex.date x), AV.osl (2 : Nat) (5 : Nat) (0 : Nat) (List.length (Ex.sub x))], Blk.box [AV.int IntKind.u8 (Ex.kind x), AV.str (Ex.rat x), AV.str (Ex.name x), AV.int IntKind.i64 (Ex.date x), AV.sl (List.length (Ex.sub x)) (5 : Nat) (Ex.deep x)]])))) (Tree.ex (fun (x_1 : Ex × Ex) => true = true → eqL [AV.agg [AV.int IntKind.u8 (Ex.kind x), AV.str (Ex.rat x), AV.str (Ex.name x), AV.int IntKind.i64 (Ex.date x), AV.sl (List.length (Ex.sub x)) (5 : Nat) (Ex.deep x)], AV.agg [AV.int IntKind.u8 (Ex.kind x), AV.str (Ex.rat x), AV.str (Ex.name x), AV.int IntKind.i64 (Ex.date x), AV.sl (List.length (Ex.sub x)) (5 : Nat) (Ex.exG (Ex.sub x))]] [AV.agg [AV.int IntKind.u8 (Ex.kind (Prod.fst x_1)), AV.str (Ex.rat (Prod.fst x_1)), AV.str (Ex.name (Prod.fst x_1)), AV.int IntKind.i64 (Ex.date (Prod.fst x_1)), AV.sl (List.length (Ex.sub (Prod.fst x_1))) (5 : Nat) (Ex.exG (Ex.sub (Prod.fst x_1)))], AV.agg [AV.int IntKind.u8 (Ex.kind (Prod.snd x_1)), AV.str (Ex.rat (Prod.snd x_1)), AV.str (Ex.name (Prod.snd x_1)), AV.int IntKind.i64 (Ex.date (Prod.snd x_1)), AV.sl (List.length (Ex.sub (Prod.snd x_1))) (5 : Nat) (Ex.exG (Ex.sub (Prod.snd x_1)))]] ∧ Ex.size (Prod.fst x_1) < (1152921504606846976 : Nat)) fun (n : Ex × Ex) => Tree.all (fun (x : Bool) => true = true → (x = true ↔ Prod.fst n = Prod.snd n)) fun (n : Bool) => Tree.leaf (Leaf2.ret [AV.bool (bif true then n else false)] [Blk.box [AV.int IntKind.u8 (Ex.kind x), AV.str (Ex.rat x), AV.str (Ex.name x), AV.int IntKind.i64 (Ex.date x), AV.sl (List.length (Ex.sub x)) (5 : Nat) (Ex.exG (Ex.sub x))], Blk.dead, Blk.arr (List.length (Ex.sub x)) (5 : Nat) g, Blk.box [AV.int IntKind.u8 (Ex.kind x), AV.str (Ex.rat x), AV.str (Ex.name x), AV.int IntKind.i64 (Ex.date x), AV.osl (2 : Nat) (5 : Nat) (0 : Nat) (List.length (Ex.sub x))], Blk.box [AV.int IntKind.u8 (Ex.kind x), AV.str (Ex.rat x), AV.str (Ex.name x), AV.int IntKind.i64 (Ex.date x), AV.sl (List.length (Ex.sub x)) (5 : Nat) (Ex.deep x)]]))) (by kernel_rfl) ?_
  simp only [Tree.holds, Leafs2, inR, lo, hi, Int.toNat_natCast]
  refine ⟨fun hlt => ?_, fun hge => ?_⟩
  · have hlt : i < x.sub.length := by have := of_decide_eq_true hlt; omega
    refine ⟨by omega, fun _ => ⟨by omega, fun _ => ?_⟩⟩
    rw [if_pos trivial]
    exact ⟨⟨(i + 1, updG g (0 + i) 0 [.int .u8 77]), hlt⟩, by show x.sub.length - (i + 1) < x.sub.length - i; omega, by simp [SLx], by simp [HLx, Ex.exS, eqB, eqG_refl], by kernel_rfl, Nat.zero_le _⟩
  · refine ⟨(x, x), fun _ => ⟨⟨⟨⟨rfl, rfl⟩, rfl, rfl, ⟨rfl, rfl⟩, ⟨rfl, rfl, Ex.deep_eq x⟩, trivial⟩, (eqX x).1, trivial⟩, by show x.size < _; rw [Ex.size_eq]; omega⟩, (ex_bool _).imp fun _ h _ => h, ?_⟩
    intro b3 hb3
    have hb3 : b3 = true := (hb3 trivial).2 rfl
    subst hb3
    exact RetR.scal hq rfl (by simp [resV])
end Go.Proofs.Tryd
end

/- From a reading of the arguments to their representation; from a contract to a call. -/
section
set_option linter.unusedVariables false
set_option linter.unusedSimpArgs false
set_option linter.unusedSectionVars false
namespace Go.Sx
variable [Stat]
open Go.RowKit (Below)
/-- No block is the caller's own. -/
def E0 : Nat → Prop := Own (fun _ => False) []
theorem E0_no (b : Nat) : ¬ E0 b := by
  rintro (h | ⟨e, he, _⟩)
  · exact h
  · simp at he
/-- Cells that read as something of a type, none of it too large. -/
def Tw (P : Program) (W : World) (t : TypeId) (cs : List Value) : Prop := ∃ (H : Type) (enc : TypeId × Value → H) (base fuel : Nat) (d : DataW H) (ps : List MemPlace), DataW.trod enc P W base (fun _ => true) true fuel t cs = some (d, ps) ∧ ∀ n ∈ d.weights P t, n ≤ reachBytes
section
variable {P : Program} {W : World} {t e : TypeId} {cs : List Value}
theorem tw_str (ht : P.underlying t = some .string) (h : Tw P W t cs) : ∃ s : List UInt8, cs = [.string ⟨s.toArray⟩] ∧ s.length ≤ reachBytes := by
  obtain ⟨H, enc, base, fuel, d, ps, h, hw⟩ := h
  obtain ⟨s, rfl, hx, _⟩ := DataW.trod_string ht h
  cases hx
  exact ⟨s.data.toList, by simp, hw _ (by simp [DataW.weights])⟩
theorem tw_int {k : IntKind} (ht : P.underlying t = some (.int k)) (h : Tw P W t cs) : ∃ n, cs = [.int k n] ∧ (Lit.int k n).wf = true := by
  obtain ⟨H, enc, base, fuel, d, ps, h, hw⟩ := h
  obtain ⟨n, rfl, hx, hwf⟩ := DataW.trod_int ht h
  exact ⟨n, rfl, hwf⟩
theorem tw_bool (ht : P.underlying t = some .bool) (h : Tw P W t cs) : ∃ b, cs = [.bool b] := by
  obtain ⟨H, enc, base, fuel, d, ps, h, hw⟩ := h
  obtain ⟨b, rfl, hx⟩ := DataW.trod_bool ht h
  exact ⟨b, rfl⟩
theorem tw_struct {fs : Array Field} (ht : P.underlying t = some (.struct fs)) (h : Tw P W t cs) : cs.length = P.cellsOf t ∧ ∀ (i : Nat) (f : Field), fs[i]? = some f → Tw P W f.type ((cs.drop f.offset).take (P.cellsOf f.type)) := by
  obtain ⟨H, enc, base, fuel, d, ps, h, hw⟩ := h
  obtain ⟨xs, n, _, hx, hl, hlen, hf⟩ := DataW.trod_struct ht h
  cases hx
  refine ⟨hl, fun i f hfi => ?_⟩
  have hi := hf i f hfi
  have hlt : i < xs.length := by
    rw [hlen]; exact (Array.getElem?_eq_some_iff.1 hfi).1
  rw [List.getElem?_eq_getElem hlt] at hi
  refine ⟨H, enc, base, n, xs[i].1, xs[i].2, hi, fun m hm => hw m ?_⟩
  simp only [DataW.weights, ht]
  exact DataW.weights_mem_each (j := i) (t := f.type) (d := xs[i].1) (by simp [hfi]) (by simp [hlt]) m hm
theorem weightsAll_mem {H : Type} {d : DataW H} : ∀ {l : List (DataW H)}, d ∈ l → ∀ n ∈ d.weights P e, n ∈ DataW.weightsAll P e l
  | x :: l, hd, n, hn => by
    simp only [DataW.weightsAll, List.mem_append]
    rcases List.mem_cons.1 hd with rfl | hd
    · exact .inl hn
    · exact .inr (weightsAll_mem hd n hn)
theorem tw_slice (ht : P.underlying t = some (.slice e)) (h : Tw P W t cs) : cs = [.slice none 0 0] ∨ ∃ (a : Addr) (len cap : Nat), cs = [.slice (some a) len cap] ∧ len ≤ cap ∧ cap * P.bytesOf e ≤ reachBytes ∧
    ∀ i, i < len → ∃ cs', cs'.length = P.cellsOf e ∧ (∀ o, o < P.cellsOf e → W.cell? ((a.add (i * P.cellsOf e)).add o) = cs'[o]?) ∧ Tw P W e cs' := by
  obtain ⟨H, enc, base, fuel, d, ps, h, hw⟩ := h
  rcases DataW.trod_slice ht h with ⟨rfl, _⟩ | ⟨a, len, cap, elems, rest, n, _, rfl, hx, hb, hl, hm, hlen, hel, hsp, _⟩
  · exact .inl rfl
  · right
    cases hx
    obtain ⟨hrl, _⟩ := hsp rfl
    simp only [DataW.weights, ht] at hw
    refine ⟨a, len, cap, rfl, hl, ?_, fun i hi => ?_⟩
    · have := hw _ (List.mem_cons_self)
      simp only [List.length_map, hlen, hrl] at this
      rwa [show len + (cap - len) = cap by omega] at this
    · have h1 := hel i hi
      have hlt : i < elems.length := by rw [hlen]; exact hi
      rw [List.getElem?_eq_getElem hlt, Option.bind_eq_some_iff] at h1
      obtain ⟨cs', h2, h3⟩ := h1
      obtain ⟨_, h4, h5⟩ := World.cells?_some h2
      refine ⟨cs', h4, h5, H, enc, base, n, elems[i].1, elems[i].2, h3, fun m hm2 => hw m ?_⟩
      simp only [List.mem_cons, List.mem_append]
      exact .inr (.inl (weightsAll_mem (d := elems[i].1) (List.mem_map.2 ⟨elems[i], List.getElem_mem hlt, rfl⟩) m hm2))
/-- A slice of elements that are known by their cells. -/
theorem rep_slice {α : Type} (z : α) (cell : α → Nat → AV) (good : α → Prop) {sz : Nat} (ht : P.underlying t = some (.slice e)) (hsz : P.cellsOf e = sz) (hpos : 0 < sz)
    (hel : ∀ cs', Tw P W e cs' → ∃ x : α, good x ∧ ∀ o, o < sz → ∃ c, cs'[o]? = some c ∧ c.oneCell' = true ∧ Rep E0 W (cell x o) [] c) (h : Tw P W t cs) :
    ∃ (l : List α) (v : Value), cs = [v] ∧ (∀ x ∈ l, good x) ∧ l.length * P.bytesOf e ≤ reachBytes ∧ v.oneCell' = true ∧ Rep E0 W (.sl l.length sz fun j => cell (l.getD j z)) [] v := by
  rcases tw_slice ht h with rfl | ⟨a, len, cap, rfl, hl, hw, hx⟩
  · refine ⟨[], _, rfl, by simp, by simp, rfl, ?_⟩
    simp only [Rep]
    exact ⟨none, 0, rfl, Nat.le_refl _, .inl rfl⟩
  · rw [hsz] at hx
    have hx2 : ∀ i, ∃ x : α, i < len → good x ∧ ∀ o, o < sz → ∃ c, W.cell? ((a.add (i * sz)).add o) = some c ∧ c.oneCell' = true ∧ Rep E0 W (cell x o) [] c := fun i => by
      by_cases hi : i < len
      · obtain ⟨cs', h1, h2, h3⟩ := hx i hi
        obtain ⟨x, hg, hc⟩ := hel cs' h3
        exact ⟨x, fun _ => ⟨hg, fun o ho => by
          obtain ⟨c, g1, g2, g3⟩ := hc o ho
          exact ⟨c, by rw [h2 o ho, g1], g2, g3⟩⟩⟩
      · exact ⟨z, fun h => absurd h hi⟩
    obtain ⟨f, hf⟩ := Classical.axiomOfChoice hx2
    have hgd : ∀ j, j < len → ((List.range len).map f).getD j z = f j := fun j hj => by simp [List.getD, hj]
    refine ⟨(List.range len).map f, _, rfl, fun x hxm => ?_, ?_, rfl, ?_⟩
    · obtain ⟨i, hi, rfl⟩ := List.mem_map.1 hxm
      exact (hf i (List.mem_range.1 hi)).1
    · simp only [List.length_map, List.length_range]
      exact Nat.le_trans (Nat.mul_le_mul_right _ hl) hw
    · simp only [Rep, List.length_map, List.length_range]
      refine ⟨some a, cap, rfl, hl, ?_⟩
      rcases Nat.eq_zero_or_pos len with h0 | h0
      · exact .inl h0
      · right
        have hspot : a.spot = none := by
          obtain ⟨c, g1, _⟩ := (hf 0 h0).2 0 hpos
          have := World.cell?_spot g1
          simpa [Addr.add] using this
        refine ⟨a, rfl, hspot, fun j o hj ho => ⟨E0_no _, ?_⟩⟩
        obtain ⟨c, g1, g2, g3⟩ := (hf j hj).2 o ho
        refine ⟨c, ?_, g2, by rw [hgd j hj]; exact g3⟩
        rw [← g1]
        obtain ⟨b, off, spot⟩ := a
        simp only at hspot
        subst hspot
        congr 1
        simp only [Addr.add]
        split <;> split <;> simp_all <;> omega
/-- A contract kept, at arguments that nobody owns: the call returns true, and below the heap's old size nothing has turned. -/
theorem law_calls {g : Nat} {fn : Func} {c : Code} (hf : P.funcs[g]? = some fn) (hb : fn.body = some c) (hn : (fn.name == "runtime.NumGoroutine") = false) {ctr : Ctr} (hok : CtrOK P g ctr) {args : List AV} {vals : List Value}
    (hspec : (ctr.spec args []).holds fun r => r = (.bool true, [])) (hr : RepL E0 W args [] vals) (hst : StatOK E0 W) : Calls P g vals.toArray W fun e W' => e = .returned (.bool true) ∧ Below W.heap.size W W' := by
  have hn' : ¬ fn.name = "runtime.NumGoroutine" := by simpa using hn
  have hg : Good (fun _ => False) W [] := ⟨fun b h => h.elim, fun i e ad he => by simp at he, hst⟩
  have hh : HRep (Own (fun _ => False) []) W [] [] := ⟨rfl, fun i j e f a b he => by simp at he, fun i e a he => by simp at he, fun i e b he => by simp at he⟩
  rcases hok args [] _ hspec (fun _ => rfl) (fun _ => False) W [] vals hg hh hr with ⟨_, h⟩ | ⟨v, w', h, _⟩
  · refine h.mono ?_
    rintro e W' ⟨v, rfl, r, hs, σ', hq, h1, _, _, _, _, hx⟩
    cases hq
    simp only [Rep] at h1
    subst h1
    exact ⟨rfl, hx.os, hx.tape, hx.output, hx.size, fun k hk => hx.keep k hk fun ⟨e, he, _⟩ => by simp at he⟩
  · simp [callFunc, hf, hn', hb] at h
end
end Go.Sx
end

/- Recursive data as arguments; package-level maps that read as they are laid. -/
section
set_option linter.unusedVariables false
set_option linter.unusedSimpArgs false
set_option linter.unusedSectionVars false
namespace Go.Sx
variable [Stat]
/-- A reading with its depth. -/
def TwN (P : Program) (W : World) (fuel : Nat) (t : TypeId) (cs : List Value) : Prop := ∃ (H : Type) (enc : TypeId × Value → H) (base : Nat) (d : DataW H) (ps : List MemPlace), DataW.trod enc P W base (fun _ => true) true fuel t cs = some (d, ps) ∧ ∀ n ∈ d.weights P t, n ≤ reachBytes
section
variable {P : Program} {W : World} {t e : TypeId} {cs : List Value}
theorem TwN.tw {fuel : Nat} (h : TwN P W fuel t cs) : Tw P W t cs := by
  obtain ⟨H, enc, base, d, ps, h, hw⟩ := h
  exact ⟨H, enc, base, fuel, d, ps, h, hw⟩
theorem Tw.twn (h : Tw P W t cs) : ∃ fuel, TwN P W fuel t cs := by
  obtain ⟨H, enc, base, fuel, d, ps, h, hw⟩ := h
  exact ⟨fuel, H, enc, base, d, ps, h, hw⟩
theorem twn_struct {fuel : Nat} {fs : Array Field} (ht : P.underlying t = some (.struct fs)) (h : TwN P W fuel t cs) : cs.length = P.cellsOf t ∧ ∃ n, n < fuel ∧ ∀ (i : Nat) (f : Field), fs[i]? = some f → TwN P W n f.type ((cs.drop f.offset).take (P.cellsOf f.type)) := by
  obtain ⟨H, enc, base, d, ps, h, hw⟩ := h
  obtain ⟨xs, n, hn, hx, hl, hlen, hf⟩ := DataW.trod_struct ht h
  cases hx
  refine ⟨hl, n, by omega, fun i f hfi => ?_⟩
  have hi := hf i f hfi
  have hlt : i < xs.length := by
    rw [hlen]; exact (Array.getElem?_eq_some_iff.1 hfi).1
  rw [List.getElem?_eq_getElem hlt] at hi
  refine ⟨H, enc, base, xs[i].1, xs[i].2, hi, fun m hm => hw m ?_⟩
  simp only [DataW.weights, ht]
  exact DataW.weights_mem_each (j := i) (t := f.type) (d := xs[i].1) (by simp [hfi]) (by simp [hlt]) m hm
theorem twn_slice {fuel : Nat} (ht : P.underlying t = some (.slice e)) (h : TwN P W fuel t cs) : cs = [.slice none 0 0] ∨ ∃ (a : Addr) (len cap n : Nat), n < fuel ∧ cs = [.slice (some a) len cap] ∧ len ≤ cap ∧ cap * P.bytesOf e ≤ reachBytes ∧
    ∀ i, i < len → ∃ cs', cs'.length = P.cellsOf e ∧ (∀ o, o < P.cellsOf e → W.cell? ((a.add (i * P.cellsOf e)).add o) = cs'[o]?) ∧ TwN P W n e cs' := by
  obtain ⟨H, enc, base, d, ps, h, hw⟩ := h
  rcases DataW.trod_slice ht h with ⟨rfl, _⟩ | ⟨a, len, cap, elems, rest, n, hn, rfl, hx, hb, hl, hm, hlen, hel, hsp, _⟩
  · exact .inl rfl
  · right
    cases hx
    obtain ⟨hrl, _⟩ := hsp rfl
    simp only [DataW.weights, ht] at hw
    refine ⟨a, len, cap, n, by omega, rfl, hl, ?_, fun i hi => ?_⟩
    · have := hw _ (List.mem_cons_self)
      simp only [List.length_map, hlen, hrl] at this
      rwa [show len + (cap - len) = cap by omega] at this
    · have h1 := hel i hi
      have hlt : i < elems.length := by rw [hlen]; exact hi
      rw [List.getElem?_eq_getElem hlt, Option.bind_eq_some_iff] at h1
      obtain ⟨cs', h2, h3⟩ := h1
      obtain ⟨_, h4, h5⟩ := World.cells?_some h2
      refine ⟨cs', h4, h5, H, enc, base, elems[i].1, elems[i].2, h3, fun m hm2 => hw m ?_⟩
      simp only [List.mem_cons, List.mem_append]
      exact .inr (.inl (weightsAll_mem (d := elems[i].1) (List.mem_map.2 ⟨elems[i], List.getElem_mem hlt, rfl⟩) m hm2))
/-- A slice of elements that are known by their cells; the elements' readings are less deep. -/
theorem rep_sliceN {α : Type} (z : α) (cell : α → Nat → AV) (good : α → Prop) {sz fuel : Nat} (ht : P.underlying t = some (.slice e)) (hsz : P.cellsOf e = sz) (hpos : 0 < sz)
    (hel : ∀ n cs', n < fuel → TwN P W n e cs' → ∃ x : α, good x ∧ ∀ o, o < sz → ∃ c, cs'[o]? = some c ∧ c.oneCell' = true ∧ Rep E0 W (cell x o) [] c) (h : TwN P W fuel t cs) :
    ∃ (l : List α) (v : Value), cs = [v] ∧ (∀ x ∈ l, good x) ∧ l.length * P.bytesOf e ≤ reachBytes ∧ v.oneCell' = true ∧ Rep E0 W (.sl l.length sz fun j => cell (l.getD j z)) [] v := by
  rcases twn_slice ht h with rfl | ⟨a, len, cap, n, hn, rfl, hl, hw, hx⟩
  · refine ⟨[], _, rfl, by simp, by simp, rfl, ?_⟩
    simp only [Rep]
    exact ⟨none, 0, rfl, Nat.le_refl _, .inl rfl⟩
  · rw [hsz] at hx
    have hx2 : ∀ i, ∃ x : α, i < len → good x ∧ ∀ o, o < sz → ∃ c, W.cell? ((a.add (i * sz)).add o) = some c ∧ c.oneCell' = true ∧ Rep E0 W (cell x o) [] c := fun i => by
      by_cases hi : i < len
      · obtain ⟨cs', h1, h2, h3⟩ := hx i hi
        obtain ⟨x, hg, hc⟩ := hel n cs' hn h3
        exact ⟨x, fun _ => ⟨hg, fun o ho => by
          obtain ⟨c, g1, g2, g3⟩ := hc o ho
          exact ⟨c, by rw [h2 o ho, g1], g2, g3⟩⟩⟩
      · exact ⟨z, fun h => absurd h hi⟩
    obtain ⟨f, hf⟩ := Classical.axiomOfChoice hx2
    have hgd : ∀ j, j < len → ((List.range len).map f).getD j z = f j := fun j hj => by simp [List.getD, hj]
    refine ⟨(List.range len).map f, _, rfl, fun x hxm => ?_, ?_, rfl, ?_⟩
    · obtain ⟨i, hi, rfl⟩ := List.mem_map.1 hxm
      exact (hf i (List.mem_range.1 hi)).1
    · simp only [List.length_map, List.length_range]
      exact Nat.le_trans (Nat.mul_le_mul_right _ hl) hw
    · simp only [Rep, List.length_map, List.length_range]
      refine ⟨some a, cap, rfl, hl, ?_⟩
      rcases Nat.eq_zero_or_pos len with h0 | h0
      · exact .inl h0
      · right
        have hspot : a.spot = none := by
          obtain ⟨c, g1, _⟩ := (hf 0 h0).2 0 hpos
          have := World.cell?_spot g1
          simpa [Addr.add] using this
        refine ⟨a, rfl, hspot, fun j o hj ho => ⟨E0_no _, ?_⟩⟩
        obtain ⟨c, g1, g2, g3⟩ := (hf j hj).2 o ho
        refine ⟨c, ?_, g2, by rw [hgd j hj]; exact g3⟩
        rw [← g1]
        obtain ⟨b, off, spot⟩ := a
        simp only at hspot
        subst hspot
        congr 1
        simp only [Addr.add]
        split <;> split <;> simp_all <;> omega
/-- A slice of numbers that reads as listed. -/
theorem rep_ints {H : Type} {enc : TypeId × Value → H} {base : Nat} {sp : Nat → Bool} {held : Bool} {fuel : Nat} {kd : IntKind} {ps : List Int} {q : List MemPlace} (ht : P.underlying t = some (.slice e)) (he : P.underlying e = some (.int kd)) (hc : P.cellsOf e = 1) (hne : ps ≠ [])
    (h : DataW.trod enc P W base sp held fuel t cs = some (.slice (ps.map fun z => .lit (.int kd z)) [], q)) : ∃ c, cs = [c] ∧ c.oneCell' = true ∧ Rep E0 W (.sl ps.length 1 fun j _ => .int kd (ps.getD j 0)) [] c := by
  obtain ⟨a, cap, rfl, hl, hel⟩ := open_row ht hc h
  refine ⟨_, rfl, rfl, ?_⟩
  simp only [List.length_map] at hl
  have hv : ∀ j, j < ps.length → W.cell? (a.add j) = some (.int kd (ps.getD j 0)) := fun j hj => by
    obtain ⟨v, n, q', h1, h2⟩ := hel j (.lit (.int kd (ps.getD j 0))) (by simp [List.getD, hj])
    obtain ⟨m, h3, h4, _⟩ := DataW.trod_int he h2
    simp only [List.cons.injEq, and_true] at h3
    simp only [Prod.mk.injEq, DataW.lit.injEq, Lit.int.injEq, true_and] at h4
    rw [h1, h3, h4.1]
  simp only [Rep, List.length_map]
  refine ⟨some a, cap, rfl, hl, .inr ⟨a, rfl, ?_, fun j o hj ho => ⟨E0_no _, .int kd (ps.getD j 0), ?_, rfl, rfl⟩⟩⟩
  · have := World.cell?_spot (hv 0 (List.length_pos_iff.2 hne))
    simpa [Addr.add] using this
  · have : o = 0 := by omega
    subst this
    have hs : a.spot = none := by
      have := World.cell?_spot (hv 0 (List.length_pos_iff.2 hne))
      simpa [Addr.add] using this
    rw [← hv j hj]
    obtain ⟨b, off, spot⟩ := a
    simp only at hs
    subst hs
    congr 1
    simp only [Addr.add]
    split <;> simp_all
end
section
open Go.WideElems Go.ChangeMaps
variable {H : Type} {enc : TypeId × Value → H} {P : Program} {W : World} {base : Nat} {sp : Nat → Bool} {held : Bool}
theorem mem_sort {x : Lit × DataW H} : ∀ {l : List (Lit × DataW H)}, x ∈ l.foldr DataW.insert [] ↔ x ∈ l
  | [] => Iff.rfl
  | y :: l => by rw [List.foldr_cons, mem_insert_iff, mem_sort, List.mem_cons]
/-- A package-level map with numbers for keys that reads as listed. -/
theorem rep_map {g : Nat} {t k e : TypeId} {kd : IntKind} {ag : Bool} {sz : Nat} {has : Int → Bool} {get : Int → Nat → AV} {fuel : Nat} {c : Value} {es0 : List (Lit × DataW H)} {q : List MemPlace}
    (hg : (Stat.z g).isSome = true) (ht : P.underlying t = some (.map k e)) (hk : P.underlying k = some (.int kd)) (hc : W.cell? ⟨g, 0, none⟩ = some c) (hne : es0 ≠ [])
    (h : DataW.trod enc P W base sp held fuel t [c] = some (.map es0, q))
    (hin : ∀ (n : Int) (d : DataW H), (.int kd n, d) ∈ es0 → has n = true ∧ ∀ (v : Value) (m : Nat) (q : List MemPlace), v.formed P e = true → DataW.trod enc P W base sp held m e v.cells.toList = some (d, q) →
      match ag with
      | true => ∃ vs : List Value, v = .agg vs.toArray ∧ vs.length = sz ∧ ∀ o, o < sz → ∃ c, vs[o]? = some c ∧ Rep E0 W (get n o) [] c
      | false => Rep E0 W (get n 0) [] v)
    (hout : ∀ n, has n = true → ∃ d, (.int kd n, d) ∈ es0) : Rep E0 W (.mp kd ag sz has get) [] c ∧ ∀ b, c = .map (some b) → b < W.heap.size := by
  rcases open_map ht h with ⟨_, hx⟩ | ⟨b, es, clock, n, _, hcs, hb, _, F, hx⟩
  · simp at hx
  · simp only [List.cons.injEq, and_true] at hcs
    subst hcs
    simp only [Prod.mk.injEq, DataW.map.injEq] at hx
    have hkey : ∀ x ∈ es.toList, ∃ (m : Int) (z : DataW H × List MemPlace), x.key = .int kd m ∧ elemAt enc P W base sp held n e x.val = some z ∧ (.int kd m, z.1) ∈ es0 := by
      intro x hxm
      obtain ⟨y, hy⟩ := F.reads x hxm
      have h1 := rd_key hy
      obtain ⟨z, h2, h3⟩ := rd_val hy
      have h4 : y ∈ es0 := by rw [hx.1, mem_sort]; exact List.mem_map.2 ⟨x, hxm, rg_of hy⟩
      have h5 : mapKey P k x.key = some y.1 := by
        simp only [keyOf, hk] at h1
        exact h1
      unfold mapKey at h5
      rw [hk] at h5
      cases hxk : x.key with
      | int k' m =>
        rw [hxk] at h5
        simp only at h5
        split at h5
        · rename_i hc2
          have h6 := Option.some.inj h5
          obtain ⟨rfl, _⟩ := hc2
          refine ⟨m, z, rfl, h2, ?_⟩
          rw [h6, ← h3]; exact h4
        · cases h5
      | _ => rw [hxk] at h5; simp at h5
    have hlt : b < W.heap.size := (Array.getElem?_eq_some_iff.1 hb).1
    refine ⟨?_, fun b' hb' => by cases hb'; exact hlt⟩
    simp only [Rep]
    refine ⟨b, es, clock, rfl, E0_no _, ⟨g, E0_no _, hg, hc⟩, hb, fun m => ?_⟩
    have hspec := MapKept.findNow_spec (d := .int kd) (k := .int kd m) (by simp [MapKept.IsKey]) es.toList 0 (fun x hxm => by
      obtain ⟨m', z, h1, _⟩ := hkey x hxm
      rw [h1]; simp [MapKept.IsKey])
    rcases hspec with ⟨h1, h2⟩ | ⟨j, x, h1, h2, h3⟩
    · refine ⟨fun _ => h1, fun hm => ?_⟩
      obtain ⟨d, hd⟩ := hout m hm
      rw [hx.1, mem_sort] at hd
      obtain ⟨x, hxm, hrx⟩ := List.mem_map.1 hd
      obtain ⟨y, hy⟩ := F.reads x hxm
      rw [rg_of hy] at hrx
      have h5 := rd_key hy
      rw [hrx] at h5
      obtain ⟨m', z, g1, _⟩ := hkey x hxm
      have : keyOf P k x.key = some (.int kd m') := by
        rw [g1] at h5 ⊢
        simp only [keyOf, hk, mapKey] at h5 ⊢
        split at h5
        · rename_i hwf; rw [if_pos hwf]
        · cases h5
      rw [this] at h5
      cases h5
      exact absurd g1 (h2 x hxm)
    · have hxm : x ∈ es.toList := List.mem_of_getElem? h2
      obtain ⟨m', z, g1, g2, g3⟩ := hkey x hxm
      rw [h3] at g1
      cases g1
      obtain ⟨hh, hrep⟩ := hin m z.1 g3
      refine ⟨fun hf => (by rw [hf] at hh; cases hh), fun _ => ⟨_, x.val, h1, ?_⟩⟩
      unfold elemAt at g2
      split at g2
      · rename_i hfm
        exact hrep x.val n z.2 hfm g2
      · cases g2
end
end Go.Sx
end

/- For every input the law returns true, and each argument reads behind the call as it read before. -/
section
set_option linter.unusedVariables false
set_option linter.unusedSimpArgs false
set_option maxRecDepth 100000
namespace Go.Proofs.YtppdnjninbblaaaDoor
open Go Go.Sx Go.Nov Go.Proofs.Tryd Go.ChangeShapes Go.WideShapes Go.ChangeAt Go.RowKit
theorem cells_str : Tryd.prog.cellsOf 9 = 1 := by kernel_rfl
theorem cells_rat : Tryd.prog.cellsOf 22 = 1 := by kernel_rfl
theorem cells_int : Tryd.prog.cellsOf 3 = 1 := by kernel_rfl
theorem cells_u8 : Tryd.prog.cellsOf 5 = 1 := by kernel_rfl
theorem cells_se : Tryd.prog.cellsOf 23 = 1 := by kernel_rfl
theorem cells_ex : Tryd.prog.cellsOf 25 = 5 := by kernel_rfl
theorem thins_of : ∀ {l : List Ex}, (∀ x ∈ l, x.thin) → Ex.thins l
  | [], _ => by rw [Ex.thins]; trivial
  | x :: l, h => by rw [Ex.thins]; exact ⟨h x (by simp), thins_of fun y hy => h y (by simp [hy])⟩
theorem ex_cells {W : World} : ∀ (fuel : Nat) {cs : List Value}, TwN Tryd.prog W fuel 25 cs →
    ∃ (x : Ex) (v : Value), x.thin ∧ cs = [.int .u8 x.kind, .string ⟨x.rat.toArray⟩, .string ⟨x.name.toArray⟩, .int .i64 x.date, v] ∧ v.oneCell' = true ∧ Rep E0 W (.sl x.sub.length 5 x.deep) [] v := by
  intro fuel
  induction fuel using Nat.strongRecOn with
  | ind fuel ih =>
    intro cs h
    obtain ⟨hl, n, hn, hf⟩ := twn_struct Tryd.underlying25 h
    rw [cells_ex] at hl
    match cs, hl with
    | [a, b, c, d, e], _ =>
      have h0 : TwN Tryd.prog W n 5 (([a, b, c, d, e].drop 0).take (Tryd.prog.cellsOf 5)) := hf 0 _ rfl
      rw [cells_u8] at h0
      replace h0 : TwN Tryd.prog W n 5 [a] := h0
      have h1 : TwN Tryd.prog W n 22 (([a, b, c, d, e].drop 1).take (Tryd.prog.cellsOf 22)) := hf 1 _ rfl
      rw [cells_rat] at h1
      replace h1 : TwN Tryd.prog W n 22 [b] := h1
      have h2 : TwN Tryd.prog W n 9 (([a, b, c, d, e].drop 2).take (Tryd.prog.cellsOf 9)) := hf 2 _ rfl
      rw [cells_str] at h2
      replace h2 : TwN Tryd.prog W n 9 [c] := h2
      have h3 : TwN Tryd.prog W n 3 (([a, b, c, d, e].drop 3).take (Tryd.prog.cellsOf 3)) := hf 3 _ rfl
      rw [cells_int] at h3
      replace h3 : TwN Tryd.prog W n 3 [d] := h3
      have h4 : TwN Tryd.prog W n 23 (([a, b, c, d, e].drop 4).take (Tryd.prog.cellsOf 23)) := hf 4 _ rfl
      rw [cells_se] at h4
      replace h4 : TwN Tryd.prog W n 23 [e] := h4
      obtain ⟨k, e0, _⟩ := tw_int Tryd.underlying5 h0.tw
      obtain ⟨r, e1, w1⟩ := tw_str Tryd.underlying22 h1.tw
      obtain ⟨m, e2, w2⟩ := tw_str Tryd.underlying9 h2.tw
      obtain ⟨z, e3, _⟩ := tw_int Tryd.underlying3 h3.tw
      obtain ⟨l, v, e4, gl, _, hone, hr⟩ := rep_sliceN Ex.nil (fun x => Ex.cell x.kind x.rat x.name x.date x.sub.length x.deep) Ex.thin Tryd.underlying23 cells_ex (by decide) (fun n' cs' hn' h' => by
        obtain ⟨x, v, hx, rfl, hv, hr⟩ := ih n' (by omega) h'
        refine ⟨x, hx, fun o ho => ?_⟩
        match o, ho with
        | 0, _ => exact ⟨_, rfl, rfl, by simp [Ex.cell, Rep]⟩
        | 1, _ => exact ⟨_, rfl, rfl, by simp [Ex.cell, Rep]⟩
        | 2, _ => exact ⟨_, rfl, rfl, by simp [Ex.cell, Rep]⟩
        | 3, _ => exact ⟨_, rfl, rfl, by simp [Ex.cell, Rep]⟩
        | 4, _ => exact ⟨v, rfl, hv, hr⟩) h4
      cases e0; cases e1; cases e2; cases e3; cases e4
      have hb : reachBytes ≤ 2 ^ 48 := by decide
      refine ⟨.mk k r m z l, _, ?_, rfl, hone, ?_⟩
      · rw [Ex.thin]; exact ⟨Nat.le_trans w1 hb, Nat.le_trans w2 hb, thins_of gl⟩
      · have hq := Ex.deep_eq (.mk k r m z l)
        simp only [Ex.sub] at hq ⊢
        simp only [Rep] at hr ⊢
        obtain ⟨a, cap, hv, hle, hcase⟩ := hr
        refine ⟨a, cap, hv, hle, hcase.imp id fun ⟨ad, g1, g2, g3⟩ => ⟨ad, g1, g2, fun j o hj ho => ?_⟩⟩
        obtain ⟨g4, c, g5, g6, g7⟩ := g3 j o hj ho
        refine ⟨g4, c, g5, g6, ?_⟩
        rw [hq j o hj ho]
        exact g7
theorem ex_val {W : World} {cs : List Value} (h : Tw Tryd.prog W 25 cs) : ∃ x : Ex, x.thin ∧ Rep E0 W x.exA [] (.agg cs.toArray) := by
  obtain ⟨fuel, h⟩ := h.twn
  obtain ⟨x, v, hx, rfl, _, hr⟩ := ex_cells fuel h
  refine ⟨x, hx, ?_⟩
  have hq := Ex.deep_eq x
  have hr2 : Rep E0 W (Ex.exS x.sub) [] v := by
    simp only [Ex.exS, Rep] at hr ⊢
    obtain ⟨a, cap, hv, hle, hcase⟩ := hr
    refine ⟨a, cap, hv, hle, hcase.imp id fun ⟨ad, g1, g2, g3⟩ => ⟨ad, g1, g2, fun j o hj ho => ?_⟩⟩
    obtain ⟨g4, c, g5, g6, g7⟩ := g3 j o hj ho
    exact ⟨g4, c, g5, g6, by rw [← hq j o hj ho]; exact g7⟩
  simp only [Ex.exA, Rep, RepL]
  exact ⟨_, rfl, _, _, rfl, rfl, _, _, rfl, rfl, _, _, rfl, rfl, _, _, rfl, rfl, _, _, rfl, hr2, rfl⟩
theorem cells_so : Tryd.prog.cellsOf 38 = 1 := by kernel_rfl
theorem cells_ss : Tryd.prog.cellsOf 41 = 1 := by kernel_rfl
theorem cells_sh : Tryd.prog.cellsOf 43 = 2 := by kernel_rfl
def shpE (H : Type) : List (Lit × DataW H) := shpL.map fun p => (.int .u8 p.1, .agg [.slice (p.2.1.map fun z => .lit (.int .u8 z)) [], .lit (.int .u8 p.2.2)])
theorem shpL_at : ∀ p ∈ shpL, shpAt p.1 = some p.2 ∧ p.2.1 ≠ [] := by decide
theorem shpL_of {k : Int} (h : shpHas k = true) : ∃ q, (k, q) ∈ shpL := by
  unfold shpHas shpAt at h
  rw [Option.isSome_map] at h
  obtain ⟨p, hp⟩ := Option.isSome_iff_exists.1 h
  have h1 := List.find?_some hp
  have h2 := List.mem_of_find?_eq_some hp
  have : p.1 = k := by simpa using h1
  exact ⟨p.2, by rw [← this]; exact h2⟩
/-- What the program's own map holds. -/
theorem shapes_rep {W : World} {cs : List Value} {fuel : Nat} {q : List MemPlace} {c : Value} (hc : W.cell? ⟨0, 0, none⟩ = some c)
    (h : DataW.trod (fun _ => ()) Tryd.prog W 0 (fun _ => true) false fuel 45 [c] = some (.map (shpE Unit), q)) :
    Rep E0 W (.mp .u8 true 2 (fun k => shpHas k) fun k o => match o with
      | 0 => .sl (shpLen k) 1 fun j _ => .int .u8 (shpPart k j)
      | _ => .int .u8 (shpOwn k)) [] c ∧ ∀ b, c = .map (some b) → b < W.heap.size := by
  refine rep_map (g := 0) rfl Tryd.underlying45 Tryd.underlying5 hc (by decide) h ?_ ?_
  · intro n d hd
    obtain ⟨p, hp, he⟩ := List.mem_map.1 hd
    obtain ⟨h1, h2⟩ := shpL_at p hp
    simp only [Prod.mk.injEq, Lit.int.injEq, true_and] at he
    obtain ⟨rfl, rfl⟩ := he
    refine ⟨by simp [shpHas, h1], fun v m q' hf ht => ?_⟩
    obtain ⟨xs, n', _, hx, hl, hlen, hfs⟩ := DataW.trod_struct Tryd.underlying43 ht
    rw [cells_sh] at hl
    cases v with
    | agg cs =>
      simp only [Value.cells] at hl hfs
      obtain ⟨cs⟩ := cs
      simp only at hl hfs
      match cs, hl with
      | [a, b], _ =>
        have f0 : DataW.trod _ Tryd.prog W 0 _ false n' 41 (([a, b].drop 0).take (Tryd.prog.cellsOf 41)) = xs[0]? := hfs 0 _ rfl
        have f1 : DataW.trod _ Tryd.prog W 0 _ false n' 38 (([a, b].drop 1).take (Tryd.prog.cellsOf 38)) = xs[1]? := hfs 1 _ rfl
        rw [cells_ss] at f0
        rw [cells_so] at f1
        match xs, hlen with
        | [x0, x1], _ =>
          simp only [List.map_cons, List.map_nil, Prod.mk.injEq, DataW.agg.injEq, List.cons.injEq, and_true] at hx
          obtain ⟨⟨hx0, hx1⟩, _⟩ := hx
          have f0 : DataW.trod _ Tryd.prog W 0 _ false n' 41 [a] = some x0 := f0
          have f1 : DataW.trod _ Tryd.prog W 0 _ false n' 38 [b] = some x1 := f1
          obtain ⟨x0a, x0b⟩ := x0
          obtain ⟨x1a, x1b⟩ := x1
          simp only at hx0 hx1
          subst hx0; subst hx1
          obtain ⟨c0, e0, _, hr⟩ := rep_ints Tryd.underlying41 Tryd.underlying38 cells_so h2 f0
          cases e0
          obtain ⟨z, e1, e2, _⟩ := DataW.trod_int Tryd.underlying38 f1
          cases e1
          simp only [Prod.mk.injEq, DataW.lit.injEq, Lit.int.injEq, true_and] at e2
          refine ⟨[a, .int .u8 z], rfl, rfl, fun o ho => ?_⟩
          have g1 : shpParts p.1 = p.2.1 := by simp [shpParts, h1]
          have g2 : shpOwn p.1 = p.2.2 := by simp [shpOwn, h1]
          match o, ho with
          | 0, _ =>
            refine ⟨a, rfl, ?_⟩
            show Rep E0 W (.sl (shpLen p.1) 1 fun j _ => .int .u8 (shpPart p.1 j)) [] a
            unfold shpLen shpPart
            rw [g1]
            exact hr
          | 1, _ =>
            refine ⟨_, rfl, ?_⟩
            show Rep E0 W (.int .u8 (shpOwn p.1)) [] _
            simp only [Rep]
            rw [g2, e2.1]
    | _ => simp [Value.formed, Tryd.underlying43] at hf
  · intro n hn
    obtain ⟨q', hq⟩ := shpL_of hn
    exact ⟨_, List.mem_map.2 ⟨_, hq, rfl⟩⟩
end Go.Proofs.YtppdnjninbblaaaDoor
end

/- For every input the law returns true, and each argument reads behind the call as it read before; the card, tied to the program's text. -/
section
set_option linter.unusedVariables false
set_option linter.unusedSimpArgs false
set_option maxRecDepth 100000
namespace Go.Proofs.YtppdnjninbblaaaDoor
open Go Go.Sx Go.Nov Go.Proofs.Tryd Go.ChangeShapes Go.WideShapes Go.ChangeAt Go.RowKit
theorem gShapes : Tryd.prog.globalNamed "novation/observable.shapes" = some 0 := by kernel_rfl
theorem tShapes : (Tryd.prog.globals[0]?).map (·.type) = some 45 := by kernel_rfl
theorem laid_eq : (Rows.laid_novation_observable_shapes : DataW Unit) = .map (shpE Unit) := rfl
abbrev laidL : List (String × DataW Unit) := [("novation/observable.shapes", Rows.laid_novation_observable_shapes)]
theorem door_met (os : Os) (args : Array Value) : laidMetH Tryd.prog laidL ((World.doorLaid Tryd.prog 400 os).forCall (fun _ _ => 0) ⟨#[], args, []⟩).memory :=
  laidMetH_of_parts3 (fuel := 8) (laidMet_of_run' 8 (by kernel_rfl) (by kernel_rfl)) (by kernel_rfl) (by kernel_rfl)
theorem stat_of {W : World} (h : laidMetH Tryd.prog laidL W) : StatOK E0 W := by
  rw [MakeChecks.laidMetH_plain _ _ _ (by kernel_rfl)] at h
  obtain ⟨ps, ⟨g0, t0, cs0, f0, p0, q0, hg0, ht0, hv0, hd0, _, _⟩, _, _⟩ := h
  obtain rfl := Option.some.inj (gShapes.symm.trans hg0)
  obtain rfl := Option.some.inj (tShapes.symm.trans ht0)
  rw [laid_eq] at hd0
  refine ⟨fun g a hz => ⟨E0_no _, ?_⟩⟩
  have hg : g = 0 := by
    apply Classical.byContradiction
    intro hne
    have : Stat.z g = none := if_neg hne
    rw [this] at hz; cases hz
  subst hg
  cases hz
  have hone : ∃ c, cs0.toList = [c] := by
    rcases Go.WideElems.open_map Tryd.underlying45 hd0 with ⟨hcs, _⟩ | ⟨b, es, clock, n, _, hcs, _⟩
    · exact ⟨_, hcs⟩
    · exact ⟨_, hcs⟩
  obtain ⟨c, hcs⟩ := hone
  rw [hcs] at hd0
  have hcell : W.cell? ⟨0, 0, none⟩ = some c := by
    have := World.var?_cell hg0 hv0 0
    rw [Array.eq_one_of_toList hcs] at this
    simpa using this
  obtain ⟨h1, h2⟩ := shapes_rep (cs := [c]) hcell hd0
  exact ⟨c, hcell, h1, h2⟩
theorem walk {W : World} {v0 v1 v2 : List Value} (h0 : Tw Tryd.prog W 25 v0) (h1 : Tw Tryd.prog W 25 v1) (h2 : Tw Tryd.prog W 9 v2) (hst : StatOK E0 W) :
    ∃ s : Value, v2 = [s] ∧ Calls Tryd.prog 3 #[.agg v0.toArray, .agg v1.toArray, s] W fun e W' => e = .returned (.bool true) ∧ Below W.heap.size W W' := by
  obtain ⟨x, hx, rx⟩ := ex_val h0
  obtain ⟨y, hy, ry⟩ := ex_val h1
  obtain ⟨s, rfl, hs⟩ := tw_str Tryd.underlying9 h2
  refine ⟨_, rfl, ?_⟩
  have hr := reachBytes_lt
  refine law_calls (fn := Tryd.f3) (c := Tryd.f3.body.getD .skip) rfl rfl rfl lawX_ok (args := [x.exA, y.exA, .str s]) (vals := [.agg v0.toArray, .agg v1.toArray, .string ⟨s.toArray⟩]) ?_ ?_ hst
  · refine ⟨(x, y, s), ⟨?_, hx, hy, by show s.length < _; omega⟩, ⟨true, rfl⟩, ?_⟩
    · exact ⟨(eqX x).1, (eqX y).1, by simp [eqA, eqA0], trivial⟩
    · rintro _ rfl
      rfl
  · exact ⟨_, _, rfl, rx, _, _, rfl, ry, _, _, rfl, by simp [Rep], rfl⟩
theorem own : ownKnob Tryd.prog.godebug = none := by kernel_rfl
theorem laid : laidOutB Tryd.prog = true := by kernel_rfl
theorem lifted (os : Os) (started : os.Started) (H : Type) (enc : TypeId × Value → H) :
    ReturnsInHanded {} Tryd.checked os 3 .any (fun w args => (Rows.observableChecksSpec.pre enc Tryd.prog Tryd.f3 [] false w args ∧ laidMetH Tryd.prog laidL w) ∧ sizedMet enc Tryd.prog Tryd.f3 (OpenSpec.ofChange Rows.observableChecksSpec) false w args)
      (Rows.observableChecksSpec.post enc Tryd.prog Tryd.f3 false true false false) := by
  refine returnsInHanded_of_change_and (C := Tryd.checked) (X := fun w _ => laidMetH Tryd.prog laidL w) (fun _ _ _ hh h => h.of_heap hh) own started (by kernel_rfl) Tryd.func3
    (ChangeSpec.witness_shaped (enc := enc) (C := Tryd.checked) (os := os) (X := fun w _ => laidMetH Tryd.prog laidL w) false (World.doorLaid Tryd.prog 400 os) #[.agg #[.int .u8 0, .string ⟨#[]⟩, .string ⟨#[]⟩, .int .i64 0, .slice none 0 0], .agg #[.int .u8 0, .string ⟨#[]⟩, .string ⟨#[]⟩, .int .i64 0, .slice none 0 0], .string ⟨#[]⟩] 8 rfl (World.shaped_of_RefB (by kernel_rfl) (by kernel_rfl)) (by kernel_rfl) (by kernel_rfl) (by kernel_rfl) (door_met os _)) ?_
  intro W base args ds gs before hval0 hW hcnd hwt hL _
  have hval : ∀ (j : Nat) t v, Tryd.f3.params[j]? = some t → args[j]? = some v → Value.okWide Tryd.prog W .any base t v := hval0
  have hW' := hW
  obtain ⟨p, q, hA0, hV, rfl, hfz, hnd⟩ := hW
  have hA : DataW.TrodAll enc Tryd.prog W 0 (fun _ => true) true Tryd.f3.params.toList args.toList ds p := hA0
  rw [Tryd.params3] at hA hval
  obtain ⟨v0, vs0, d0, ds0, p0, q0, hargs, rfl, rfl, h0, r0⟩ := trodAll_cons hA
  obtain ⟨v1, vs1, d1, ds1, p1, q1, rfl, rfl, rfl, h1, r1⟩ := trodAll_cons r0
  obtain ⟨v2, vs2, d2, ds2, p2, q2, rfl, rfl, rfl, h2, r2⟩ := trodAll_cons r1
  obtain ⟨rfl, rfl, rfl⟩ := trodAll_nil r2
  obtain rfl : args = #[v0, v1, v2] := by cases args; simp_all
  obtain ⟨rfl, rfl⟩ := trodVars_none hV
  clear hA0 hval0
  simp only [List.append_nil] at hW' hwt
  have hw : ∀ (j : Nat) (t : TypeId) (d : DataW H), [25, 25, 9][j]? = some t → [d0, d1, d2][j]? = some d → ∀ n ∈ d.weights Tryd.prog t, n ≤ reachBytes := fun j t d ht hd n hn => by
    have := List.all_eq_true.1 hwt n (DataW.weights_mem_each (j := j) (t := t) (d := d) (by exact ht) (by exact hd) n hn)
    simpa using this
  obtain ⟨c0, rfl, _⟩ := okWide_struct Tryd.underlying25 (hval 0 25 v0 rfl rfl)
  obtain ⟨c1, rfl, _⟩ := okWide_struct Tryd.underlying25 (hval 1 25 v1 rfl rfl)
  obtain ⟨c2, rfl, _⟩ := okWide_string Tryd.underlying9 (hval 2 9 v2 rfl rfl)
  have t0 : Tw Tryd.prog W 25 c0.toList := by
    obtain ⟨fuel, hf⟩ := h0
    exact ⟨H, enc, 0, fuel, d0, p0, by simpa [Value.cells] using hf, hw 0 _ d0 rfl rfl⟩
  have t1 : Tw Tryd.prog W 25 c1.toList := by
    obtain ⟨fuel, hf⟩ := h1
    exact ⟨H, enc, 0, fuel, d1, p1, by simpa [Value.cells] using hf, hw 1 _ d1 rfl rfl⟩
  have t2 : Tw Tryd.prog W 9 [.string c2] := by
    obtain ⟨fuel, hf⟩ := h2
    exact ⟨H, enc, 0, fuel, d2, p2, by simpa [Value.cells] using hf, hw 2 _ d2 rfl rfl⟩
  have hlt : ∀ x ∈ p0 ++ (p1 ++ p2), x.block < W.heap.size := fun x hx => by simpa using hW'.lt x (by simpa using hx)
  obtain ⟨s, hs, hcall⟩ := walk t0 t1 t2 (stat_of hL)
  cases hs
  simp only [Array.toArray_toList] at hcall
  refine hcall.mono fun e W' ⟨he, hb⟩ => ?_
  subst he
  refine ⟨_, rfl, _, _, _, [], p0 ++ (p1 ++ p2), [], hW', trodAll_mk1 (shut_bool Tryd.underlying4 true), ?_, rfl, hb.frame _, fun h => by cases h⟩
  refine trodAll_mk3 (Below.trod laid (by kernel_rfl) (of_decide_eq_true (by kernel_rfl)) h0 hb fun x hx => hlt x (by simp [hx])) (Below.trod laid (by kernel_rfl) (of_decide_eq_true (by kernel_rfl)) h1 hb fun x hx => hlt x (by simp [hx])) (Below.trod laid (by kernel_rfl) (of_decide_eq_true (by kernel_rfl)) h2 hb fun x hx => hlt x (by simp [hx]))
theorem over : Rows.observableChecksRow.holds Tryd.pinned (OpenSpec.ofChange Rows.observableChecksSpec) :=
  OpenClaim.holds_of_wide 3 Tryd.f3 rfl rfl rfl rfl rfl rfl rfl ⟨rfl, rfl, rfl, rfl, rfl⟩ rfl rfl rfl rfl rfl (by kernel_rfl) Tryd.func3 (by kernel_rfl)
    (of_decide_eq_true (by kernel_rfl)) (by unfold Func.isWrapper; first | (rw [if_pos (by decide +kernel)]; kernel_rfl) | (rw [if_neg (by decide +kernel)]; exact ⟨rfl, rfl⟩))
    (fun os started H enc _ => lifted os started H enc)
theorem observableChecks_said : Rows.ObservableChecksSaid := over
theorem observableChecks_holds : Rows.ObservableChecksCardSaid :=
  Claim7.holds_tied_plain_at .later [] [.mappedDeep] true (true, "e41f5e946afb945b6fa076553bff1bafe19479eaf0e80b8360fb409d60bb2260") false
    observableChecks_said (fun _ h => by cases h) (by kernel_rfl) (fun _ h => by cases h) observableChecks_row_tie rfl ⟨rfl, rfl⟩ (by kernel_rfl) rfl
    (fun f fn hf hfn => by
      obtain rfl : f = 3 := Option.some.inj ((show Tryd.prog.funcNamed "novation/novationlaw08.ObservableChecks" = some 3 by kernel_rfl).symm.trans hf) |>.symm
      obtain rfl : fn = Tryd.f3 := (Option.some.inj (Tryd.func3.symm.trans hfn)).symm
      exact ⟨by kernel_rfl, fun j t ht => by
        rw [Tryd.params3] at ht
        have hm : t ∈ [25, 25, 9] := by simpa using Array.mem_of_getElem? ht
        have hall : ([25, 25, 9].all fun u => !Tryd.prog.wantsStandIn u) = true := by kernel_rfl
        exact (show Tryd.prog.wantsStandIn t = false by simpa using List.all_eq_true.1 hall t hm)⟩)
    (by kernel_rfl)
end Go.Proofs.YtppdnjninbblaaaDoor
end
