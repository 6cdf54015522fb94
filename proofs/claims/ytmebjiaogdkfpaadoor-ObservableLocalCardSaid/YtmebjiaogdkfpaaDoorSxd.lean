/- Part 4 of the proof. -/
import Derived.Test.YtmebjiaogdkfpaaDoorSxc
import Derived.Control
import Derived.Test.YtmebjiaogdkfpaaDoorProg
set_option linter.unusedVariables false
set_option linter.unusedSimpArgs false
set_option linter.unusedSectionVars false

/- Regions whose order is open: every order does what the executor's order does. -/
section
namespace Go.Sx
variable [Stat]
open Go.RowKit (Below)
section
variable {O : Nat → Prop} {pin : Nat} {w0 : World} {σ0 : List SE} {w : World} {σ : List SE} {P : Program} {st st2 : St} {a : Act} {Γ : Nat → Option Ctr}
variable {ops : Array Oper} {L : List Nat} {pend res : List Ent} {listed : Array Bool}
theorem uR {α : Type} {Q : α → Prop} : ∀ {t : Tree α} {ps : List Prop} {y : α}, t.chain = some (ps, y) → t.holds Q → Q y ∧ t.holds (· = y)
 | .leaf x, ps, y, h, hq => by simp only [Tree.chain, Option.some.injEq, Prod.mk.injEq] at h; obtain ⟨_, rfl⟩ := h; exact ⟨hq, rfl⟩
 | .ite _ _ _, _, _, h, _ => by simp [Tree.chain] at h
 | .fail, _, _, h, _ => by simp [Tree.chain] at h
 | .ex _ _, _, _, h, _ => by simp [Tree.chain] at h
 | .all _ _, _, _, h, _ => by simp [Tree.chain] at h
 | .side p t, ps, y, h, hq => by
  simp only [Tree.chain] at h
  split at h
  ·rename_i qs z hc
   simp only [Option.some.injEq, Prod.mk.injEq] at h
   obtain ⟨_, rfl⟩ := h
   obtain ⟨h1, h2⟩ := uR hc (hq.2 hq.1)
   exact ⟨h1, hq.1, fun _ => h2⟩
  ·cases h
theorem Qj (x : AV) : ∀ t want y, see [] x ≠ .opt t want y := by
 intro t want y
 cases x <;> simp [see]
theorem ZE {o : Oper} {Q : Res → Prop} (h : (qI P Γ ops st o).holds Q) : (qI P Γ ops st o).holds fun r => Q r ∧ ∀ u want x, r.val = .opt u want x → u ∈ q7 ops st.tmps o := by
 unfold qI at h ⊢
 cases hg : o.guard with
 | none =>
  rw [hg] at h
  simp only at h ⊢
  rw [Tree.zi] at h ⊢
  exact Tree.zV (fun x hx => ⟨hx, fun u want y hy => absurd hy (Qj _ _ _ _)⟩) h
 | some p =>
  obtain ⟨j, want⟩ := p
  rw [hg] at h
  simp only at h ⊢
  cases hj : (ops[j]?).bind (·.dst) with
  | none => rw [hj] at h; exact h.elim
  | some t =>
   rw [hj] at h
   simp only at h ⊢
   split at h
   ·rename_i heff
    unfold Qy at h ⊢
    split at h
    ·split at h
     ·rename_i hdt
      rw [if_pos hdt]
      refine ⟨fun hb => ?_, fun hb => ⟨h.2 hb, fun u want' x hx => ?_⟩⟩
      ·have h1 := h.1 hb
       rw [Tree.zi] at h1 ⊢
       exact Tree.zV (fun x hx => ⟨hx, fun u want y hy => absurd hy (Qj _ _ _ _)⟩) h1
      ·simp only [AV.opt.injEq] at hx
       obtain ⟨rfl, _⟩ := hx
       exact wD hg hj (by simp [ja])
     ·exact h.elim
    ·exact h.elim
   split at h
   ·split at h
    ·rename_i hdt
     rw [if_pos hdt]
     refine jm (fun v hv => ⟨hv, fun u want' x hx => ?_⟩) h
     simp only [AV.opt.injEq] at hx
     obtain ⟨rfl, _⟩ := hx
     exact wD hg hj (by simp [ja])
    ·exact h.elim
   ·exact h.elim
theorem ju (dst : Option Nat) (r : Res) (t : Nat) : (putX st dst r).tmps.getD t .undef = match dst with
  | some d => if t = d ∧ d < st.tmps.length then r.val else zO d (z6 r.kill (st.tmps.getD t .undef))
  | none => z6 r.kill (st.tmps.getD t .undef) := by
 cases dst with
 | none => simp only [putX]; rw [jv, getD_map (j2 _)]
 | some d =>
  simp only [putX]
  rw [jv]
  have hl : ((st.tmps.map (z6 r.kill)).map (zO d)).length = st.tmps.length := by simp
  by_cases h : t = d
  ·subst h
   by_cases hlt : t < st.tmps.length
   ·rw [if_pos ⟨rfl, hlt⟩]
    simp only [List.getD]
    rw [List.getElem?_set_self (by rw [hl]; exact hlt)]; rfl
   ·rw [if_neg (fun h => hlt h.2)]
    simp only [List.getD]
    rw [List.getElem?_eq_none (by simpa using Nat.le_of_not_lt hlt), List.getElem?_eq_none (by simpa using Nat.le_of_not_lt hlt)]
    simp only [Option.getD_none, j2]; rfl
  ·rw [if_neg (fun h' => h h'.1)]
   simp only [List.getD]
   rw [List.getElem?_set_ne (fun e => h e.symm)]
   have := getD_map (f := zO d) rfl (st.tmps.map (z6 r.kill)) t
   simp only [List.getD] at this
   rw [this]
   have := getD_map (f := z6 r.kill) (j2 _) st.tmps t
   simp only [List.getD] at this
   rw [this]
theorem wS (dst : Option Nat) (r : Res) : (putX st dst r).tmps.length = st.tmps.length := by
 cases dst <;> simp [putX, jv]
theorem wN (dst : Option Nat) (r : Res) : (putX st dst r).heap = zm (zL r.kill st.heap) r.eff := by
 cases dst <;> rfl
theorem Mod.weaken (hm : Mod O pin w0 σ0 w σ st a) (hh : st2.heap = st.heap) (hl : st2.tmps.length = st.tmps.length) (ht : ∀ t, st2.tmps.getD t .undef = st.tmps.getD t .undef ∨ st2.tmps.getD t .undef = .undef) : Mod O pin w0 σ0 w σ st2 a := by
 refine ⟨hm.good, hh ▸ hm.hp, by rw [hl]; exact hm.size, fun t => ?_, hm.df, hm.since, hm.lim⟩
 rcases ht t with h | h
 ·rw [h]; exact hm.tm t
 ·rw [h]; simp [TRep, Rep]
theorem u6 {K : List Nat} {i : Nat} (hi : i ∈ K) {a : AV} (h : x5 K a = true) : jd i a = a := by
 cases a with
 | osl j sz off n =>
  simp only [x5, List.contains_eq_mem, Bool.not_eq_true', decide_eq_false_iff_not] at h
  simp only [jd]; rw [if_neg (fun (e : i = j) => h (e ▸ hi))]
 | eptr j sz idx off =>
  simp only [x5, List.contains_eq_mem, Bool.not_eq_true', decide_eq_false_iff_not] at h
  simp only [jd]; rw [if_neg (fun (e : i = j) => h (e ▸ hi))]
 | ptr j off =>
  simp only [x5, List.contains_eq_mem, Bool.not_eq_true', decide_eq_false_iff_not] at h
  simp only [jd]; rw [if_neg (fun (e : i = j) => h (e ▸ hi))]
 | agg _ => cases h
 | tup _ => cases h
 | opt _ _ _ => cases h
 | fn f x y =>
  cases x <;> cases y <;> simp [x5] at h
  rfl
 | _ => rfl
theorem WY {K : List Nat} {i : Nat} (hi : i ∈ K) {a : AV} (h : Qd K a = true) : zY i a = a := by
 have hL : ∀ l : List AV, l.all (x5 K) = true → l.map (jd i) = l := fun l hl => by
  rw [List.all_eq_true] at hl
  conv => rhs; rw [← List.map_id l]
  exact List.map_congr_left fun x hx => u6 hi (hl x hx)
 cases a with
 | agg l => simp only [zY]; rw [hL l h]
 | tup l => simp only [zY]; rw [hL l h]
 | _ => simp only [Qd] at h; simp only [zY]; exact u6 (K := K) hi h
theorem yV {a : AV} : ∀ {K : List Nat}, (∀ i ∈ K, zY i a = a) → z6 K a = a
 | [], _ => rfl
 | i :: K, h => by
  simp only [z6]
  rw [h i (by simp)]
  exact yV fun j hj => h j (by simp [hj])
theorem ki {K : List Nat} {a : AV} (h : Qd K a = true) : z6 K a = a := yV fun i hi => WY hi h
theorem Wb {K : List Nat} {b : Blk} (h : Yo K b = true) : jR K b = b := by
 cases b with
 | box cs =>
  simp only [Yo, List.all_eq_true] at h
  simp only [jR]
  congr 1
  conv => rhs; rw [← List.map_id cs]
  exact List.map_congr_left fun x hx => ki (h x hx)
 | _ => rfl
theorem uS {K : List Nat} {a : AV} {u : Nat} {want : Bool} {x : AV} (h : z6 K a = .opt u want x) : a = .opt u want x := by
 have h0 : ∀ (i : Nat) (y : AV), zY i y ≠ .opt u want x := by
  intro i y h
  cases y with
  | agg _ => cases h
  | tup _ => cases h
  | fn f p q => cases p <;> cases q <;> simp [zY, jd] at h
  | osl j _ _ _ => simp only [zY, jd] at h; split at h <;> cases h
  | ptr j _ => simp only [zY, jd] at h; split at h <;> cases h
  | eptr j _ _ _ => simp only [zY, jd] at h; split at h <;> cases h
  | _ => cases h
 induction K generalizing a with
 | nil => exact h
 | cons i K ih => exact absurd (ih h) (h0 i a)
theorem Xb {ops : Array Oper} {o : Oper} {dst : Option Nat} {r : Res} (hd : ∀ d, dst = some d → d ∉ zG ops st.tmps o) (hk : ∀ t ∈ zG ops st.tmps o, z6 r.kill (st.tmps.getD t .undef) = st.tmps.getD t .undef) : ∀ t ∈ q7 ops st.tmps o, (putX st dst r).tmps.getD t .undef = st.tmps.getD t .undef := by
 intro t ht
 have htl : t ∈ zG ops st.tmps o := by simp [zG, ht]
 rw [ju]
 cases dst with
 | none => exact hk t htl
 | some d =>
  have hd := hd d rfl
  have htd : t ≠ d := fun e => hd (e ▸ htl)
  simp only
  rw [if_neg (fun h => htd h.1), hk t htl]
  cases hx : st.tmps.getD t .undef with
  | opt u w' y =>
   simp only [zO]
   rw [if_neg]
   rintro rfl
   refine hd ?_
   simp only [zG, List.mem_append, List.mem_flatMap]
   exact .inr ⟨t, ht, by rw [hx]; simp [YN]⟩
  | _ => rfl
theorem vp (d : Nat) (y : AV) : zO d y = y ∧ (∀ want x, y ≠ .opt d want x) ∨ zO d y = .undef := by
 cases y with
 | opt u want x =>
  simp only [zO]
  by_cases h : u = d
  ·right; rw [if_pos h]
  ·left; rw [if_neg h]; exact ⟨rfl, fun want' x' e => by cases e; exact h rfl⟩
 | _ => left; exact ⟨rfl, fun want' x' e => by cases e⟩
theorem Inv.clear (I : Inv P Γ ops L st pend listed) {e : Ent} (he : e ∈ pend) (hr : e.k ∈ Region.ready .any ops listed) : ∀ f ∈ pend, f.k ≠ e.k → f.d ∉ e.looks ∧ f.d ≠ e.d := by
 intro f hf hne
 obtain ⟨o, ho⟩ := I.good e he
 obtain ⟨_, o', ho', hall⟩ := j9.1 hr
 rw [ho.op] at ho'; cases ho'
 rcases I.ord e he f hf (fun h => hne h.symm) with ⟨_, h2, h3⟩ | ⟨h1, h2, _⟩
 ·rcases h3 with h3 | h3
  ·have := Jc (T := fun k => listed.getD k false = true) I.cl hall f.k (h3 o ho.op)
   exact absurd ⟨f, hf, rfl⟩ ((I.T f.k).1 this).2
  ·exact ⟨h3, fun h => h2 h.symm⟩
 ·exact ⟨h1, h2⟩
theorem Jm.WS {e : Ent} {o : Oper} (h : Jm P Γ ops st e o) {u : Nat} {want : Bool} {x : AV} (hx : e.x = .opt u want x) : u ∈ e.looks := by
 obtain ⟨r, hr, h2⟩ := Tree.wB (ZE h.val)
 subst hr
 have := h2 u want x hx
 rw [← h.looks]
 simp [zG, this]
theorem kR {k : Nat} (hk : listed.getD k true = false) (j : Nat) (d : Bool) : (listed.setIfInBounds k true).getD j d = if j = k then true else listed.getD j d := by
 by_cases h : j = k
 ·subst h
  rw [if_pos rfl]
  have : j < listed.size := by
   rcases Nat.lt_or_ge j listed.size with h | h
   ·exact h
   ·simp [h] at hk
  simp [this]
 ·rw [if_neg h]; exact getD_set_ne d (fun e => h e.symm)
theorem Inv.zes (I : Inv P Γ ops L st pend listed) {e : Ent} (he : e ∈ pend) (hr : e.k ∈ Region.ready .any ops listed) : Inv P Γ ops L st (pend.filter fun f => f.k != e.k) (listed.setIfInBounds e.k true) := by
 obtain ⟨hun, o', ho', hall⟩ := j9.1 hr
 have hset := kR hun
 have hmem : ∀ f, f ∈ pend.filter (fun f => f.k != e.k) ↔ f ∈ pend ∧ f.k ≠ e.k := fun f => by simp
 have hlt : e.k < ops.size := (Array.getElem?_eq_some_iff.1 ho').1
 have hcl := I.clear he hr
 obtain ⟨o, ho⟩ := I.good e he
 refine ⟨fun k hk => ?_, fun k hk => ?_, fun k hk => ?_, I.ok, I.lt, fun f hf => I.key f ((hmem f).1 hf).1, fun f hf g hg => I.uniq f ((hmem f).1 hf).1 g ((hmem g).1 hg).1, fun f hf g hg => I.ord f ((hmem f).1 hf).1 g ((hmem g).1 hg).1, fun f hf => I.good f ((hmem f).1 hf).1, ?_, ?_⟩
 ·rw [hset]
  by_cases h : k = e.k
  ·rw [if_pos h]
   simp only [Bool.true_eq_false, false_iff, not_or, Classical.not_not]
   refine ⟨h ▸ I.key e he, ?_⟩
   rintro ⟨f, hf, hfk⟩
   exact ((hmem f).1 hf).2 (hfk.trans h)
  ·rw [if_neg h, I.lis k hk]
   constructor
   ·rintro (h1 | ⟨f, hf, hfk⟩)
    ·exact .inl h1
    ·exact .inr ⟨f, (hmem f).2 ⟨hf, fun e' => h (hfk.symm.trans e')⟩, hfk⟩
   ·rintro (h1 | ⟨f, hf, hfk⟩)
    ·exact .inl h1
    ·exact .inr ⟨f, ((hmem f).1 hf).1, hfk⟩
 ·rw [hset, hset, if_neg (fun h => hk (by omega)), if_neg (fun h => hk (by omega))]; exact I.out k hk
 ·rw [hset, hset]; split
  ·rfl
  ·exact I.lis2 k hk
 ·intro f hf t want x hx
  obtain ⟨hf1, hf2⟩ := (hmem f).1 hf
  obtain ⟨g, hg, hgt⟩ := I.Wl f hf1 t want x hx
  by_cases hge : g.k = e.k
  ·exfalso
   have := I.uniq g hg e he hge
   subst this
   subst hgt
   have hlt2 : g.d < st.tmps.length := by
    rcases Nat.lt_or_ge g.d st.tmps.length with h | h
    ·exact h
    ·simp [List.getD, List.getElem?_eq_none h] at hx
   rw [ho.slot hlt2] at hx
   exact (hcl f hf1 hf2).1 (ho.WS hx)
  ·exact ⟨g, (hmem g).2 ⟨hg, hge⟩, hgt⟩
 ·intro k o2 hk ho2 j hj
  rw [hset] at hk ⊢
  split
  ·rfl
  ·split at hk
   ·rename_i hke
    subst hke
    rw [ho'] at ho2; cases ho2
    exact hall j hj
   ·exact I.cl k o2 hk ho2 j hj
theorem modA (I : Inv P Γ ops L st pend listed) {e : Ent} (he : e ∈ pend) (hr : e.k ∈ Region.ready .any ops listed) {w' : World} {σ' : List SE} {a' : Act} (hm : Mod O pin w0 σ0 w' σ' (putX (mask (pend.map (·.d)) st) (some e.d) ⟨e.x, [], []⟩) a') :
  Mod O pin w0 σ0 w' σ' (mask ((pend.filter fun f => f.k != e.k).map (·.d)) st) a' := by
 obtain ⟨o, ho⟩ := I.good e he
 have hcl := I.clear he hr
 refine hm.weaken ?_ (by rw [wS, jg, jg]) fun t => ?_
 ·rw [wN]; simp only [zL, zm]; rfl
 ·rw [ju, qF, qF, jg]
  simp only [z6]
  by_cases hD' : t ∈ (pend.filter fun f => f.k != e.k).map (·.d)
  ·rw [if_pos hD']; exact .inr rfl
  ·rw [if_neg hD']
   by_cases htd : t = e.d
   ·subst htd
    by_cases hlt : e.d < st.tmps.length
    ·rw [if_pos ⟨rfl, hlt⟩]
     exact .inl (ho.slot hlt)
    ·right
     simp only [List.getD]
     rw [List.getElem?_eq_none (by omega)]; rfl
   ·rw [if_neg (fun h => htd h.1)]
    have hD : t ∉ pend.map (·.d) := by
     intro h
     obtain ⟨f, hf, hft⟩ := List.mem_map.1 h
     apply hD'
     refine List.mem_map.2 ⟨f, ?_, hft⟩
     simp only [List.mem_filter, bne_iff_ne, ne_eq]
     exact ⟨hf, fun hk => htd (by rw [← hft, I.uniq f hf e he hk])⟩
    rw [if_neg hD]
    rcases vp e.d (st.tmps.getD t .undef) with ⟨h, _⟩ | h
    ·rw [h]; exact .inl rfl
    ·left
     rw [h]
     generalize hy : st.tmps.getD t .undef = y at h ⊢
     cases y with
     | opt u want x =>
      simp only [zO] at h
      split at h
      ·rename_i hu
       subst hu
       obtain ⟨f, hf, hft⟩ := I.Wl e he t want x hy
       exact absurd (List.mem_map.2 ⟨f, hf, hft⟩) hD
      ·cases h
     | undef => rfl
     | _ => simp only [zO] at h; exact h
theorem Inv.ahead (I : Inv P Γ ops L st pend listed) {e : Ent} {o : Oper} (h1 : ops[e.k]? = some o) (h2 : o.dst = some e.d) (h3 : (qI P Γ ops st o).holds (fun r => r = ⟨e.x, [], []⟩)) (h4 : zG ops st.tmps o = e.looks) (h5 : e.d ∉ e.looks)
  (h6 : zX (zE st (vy ops st o)) o.op = some e.labs) (h7 : ∀ i ∈ e.labs, i < st.heap.length) (hrd : e.k ∈ v8 ops L) (hb : ∀ f ∈ pend, jK (jx ops o) (some e.d) e.looks true f = true) :
  Inv P Γ ops (e.k :: L) (putX st (some e.d) ⟨e.x, [], []⟩) (e :: pend) listed := by
 obtain ⟨hkL, o2, ho2, hall⟩ := kM.1 hrd
 rw [h1] at ho2; cases ho2
 have hlt : e.k < ops.size := (Array.getElem?_eq_some_iff.1 h1).1
 have hb' : ∀ f ∈ pend, e.d ∉ f.looks ∧ e.d ≠ f.d ∧ (f.k ∈ jx ops o ∨ f.d ∉ e.looks) := by
  intro f hf
  have := hb f hf
  simp only [jK, Bool.or_eq_true, Bool.and_eq_true, Bool.not_true, Bool.false_or, Bool.not_eq_true', List.contains_eq_mem, decide_eq_true_eq, decide_eq_false_iff_not, beq_eq_false_iff_ne, ne_eq] at this
  rcases this with ⟨g1, g2, g3⟩ | ⟨⟨g1, g2⟩, g3⟩
  ·exact ⟨g2, g3, .inl g1⟩
  ·exact ⟨g1, g2, .inr g3⟩
 have hheap : (putX st (some e.d) ⟨e.x, [], []⟩).heap = st.heap := by rw [wN]; simp [zL, zm]
 have hself : ∀ t ∈ q7 ops st.tmps o, (putX st (some e.d) ⟨e.x, [], []⟩).tmps.getD t .undef = st.tmps.getD t .undef := JG (fun d hd => by cases hd; rw [h4]; exact h5) rfl
 have hslot : ∀ t, t ≠ e.d → (putX st (some e.d) ⟨e.x, [], []⟩).tmps.getD t .undef = zO e.d (st.tmps.getD t .undef) := by
  intro t ht
  rw [ju]; simp only [z6]
  rw [if_neg (fun h => ht h.1)]
 have hE : Jm P Γ ops (putX st (some e.d) ⟨e.x, [], []⟩) e o := by
  refine ⟨h1, h2, ?_, ?_, h5, ?_, ?_, ?_⟩
  ·rw [jM hself (.inl hheap)]; exact h3
  ·rw [vR hself]; exact h4
  ·rw [vF hself, vf hself]; exact h6
  ·rw [hheap]; exact h7
  ·intro hl
   rw [wS] at hl
   rw [ju]; simp only
   rw [if_pos ⟨trivial, hl⟩]
 have h0 : Jm P Γ ops (putX st (some e.d) ⟨e.x, [], []⟩) e o := hE
 refine ⟨fun k hk => ?_, I.out, I.lis2, ⟨fun o2 ho2 k hk => ?_, hkL, I.ok⟩, fun k hk => ?_, fun f hf => ?_, fun f hf g hg hfg => ?_, fun f hf g hg hne => ?_, fun f hf => ?_, ?_, I.cl⟩
 ·by_cases hke : k = e.k
  ·subst hke
   have := (I.lis e.k hk).2 (.inl hkL)
   simp [this]
  ·rw [I.lis k hk]
   constructor
   ·rintro (g1 | ⟨f, hf, g1⟩)
    ·exact .inl (by simp [hke, g1])
    ·exact .inr ⟨f, by simp [hf], g1⟩
   ·rintro (g1 | ⟨f, hf, g1⟩)
    ·exact .inl (fun h => g1 (by simp [h]))
    ·rcases List.mem_cons.1 hf with rfl | hf
     ·exact absurd g1.symm hke
     ·exact .inr ⟨f, hf, g1⟩
 ·rw [h1] at ho2; cases ho2; exact hall k hk
 ·rcases List.mem_cons.1 hk with rfl | hk
  ·exact hlt
  ·exact I.lt k hk
 ·rcases List.mem_cons.1 hf with rfl | hf
  ·simp
  ·simp [I.key f hf]
 ·rcases List.mem_cons.1 hf with hf2 | hf2 <;> rcases List.mem_cons.1 hg with hg2 | hg2
  ·rw [hf2, hg2]
  ·rw [hf2] at hfg; exact absurd (hfg ▸ I.key g hg2) hkL
  ·rw [hg2] at hfg; exact absurd (hfg ▸ I.key f hf2) hkL
  ·exact I.uniq f hf2 g hg2 hfg
 ·have hLat : ∀ g ∈ pend, U7 ops e g := fun g hg => by
   obtain ⟨g1, g2, g3⟩ := hb' g hg
   exact ⟨g1, g2, g3.imp (fun h o2 ho2 => by rw [h1] at ho2; cases ho2; exact h) id⟩
  rcases List.mem_cons.1 hf with hf2 | hf2 <;> rcases List.mem_cons.1 hg with hg2 | hg2
  ·rw [hf2, hg2] at hne; exact absurd rfl hne
  ·rw [hf2]; exact .inl (hLat g hg2)
  ·rw [hg2]; exact .inr (hLat f hf2)
  ·exact I.ord f hf2 g hg2 hne
 ·rcases List.mem_cons.1 hf with rfl | hf
  ·exact ⟨o, hE⟩
  ·obtain ⟨o2, ho2⟩ := I.good f hf
   obtain ⟨g1, g2, g3⟩ := hb' f hf
   have hs2 : ∀ t ∈ q7 ops st.tmps o2, (putX st (some e.d) ⟨e.x, [], []⟩).tmps.getD t .undef = st.tmps.getD t .undef := JG (fun d hd => by cases hd; rw [ho2.looks]; exact g1) rfl
   refine ⟨o2, ho2.op, ho2.dst, ?_, ?_, ho2.self, ?_, ?_, ?_⟩
   ·rw [jM hs2 (.inl hheap)]; exact ho2.val
   ·rw [vR hs2]; exact ho2.looks
   ·rw [vF hs2, vf hs2]; exact ho2.quiet
   ·rw [hheap]; exact ho2.lab
   ·intro hl
    rw [wS] at hl
    rw [hslot f.d (fun h => g2 h.symm), ho2.slot hl]
    rcases vp e.d f.x with ⟨h, _⟩ | h
    ·exact h
    ·cases hx : f.x with
     | opt u want y =>
      rw [hx] at h
      simp only [zO] at h ⊢
      split
      ·rename_i hu
       subst hu
       exact absurd (ho2.WS hx) g1
      ·rfl
     | _ => simp only [zO]
 ·intro f hf t want x hx
  by_cases htd : t = e.d
  ·exact ⟨e, by simp, htd.symm⟩
  ·rw [hslot t htd] at hx
   rcases vp e.d (st.tmps.getD t .undef) with ⟨h, h'⟩ | h
   ·rw [h] at hx
    rcases List.mem_cons.1 hf with rfl | hf
    ·exact absurd hx (h' want x)
    ·obtain ⟨g, hg, hgt⟩ := I.Wl f hf t want x hx
     exact ⟨g, by simp [hg], hgt⟩
   ·rw [h] at hx; cases hx
theorem modC {e : Ent} (hm : Mod O pin w0 σ0 w σ (mask (pend.map (·.d)) st) a) : Mod O pin w0 σ0 w σ (mask ((e :: pend).map (·.d)) (putX st (some e.d) ⟨e.x, [], []⟩)) a := by
 refine hm.weaken ?_ (by rw [jg, jg, wS]) fun t => ?_
 ·show (putX st (some e.d) ⟨e.x, [], []⟩).heap = st.heap
  rw [wN]; simp [zL, zm]
 ·rw [qF, qF]
  by_cases h1 : t ∈ (e :: pend).map (·.d)
  ·rw [if_pos h1]; exact .inr rfl
  ·rw [if_neg h1, if_neg (fun h => h1 (by simp only [List.map_cons, List.mem_cons]; exact .inr h)), ju]
   simp only [z6]
   rw [if_neg (fun h => h1 (by simp [h.1]))]
   rcases vp e.d (st.tmps.getD t .undef) with ⟨h, _⟩ | h
   ·exact .inl h
   ·exact .inr h
theorem Inv.zf3 (I : Inv P Γ ops L st pend listed) {i : Nat} {o : Oper} {r : Res} (h1 : ops[i]? = some o) (hiL : i ∉ L) (hr : i ∈ Region.ready .any ops listed)
  (hb : ∀ f ∈ pend, jK (jx ops o) o.dst (zG ops st.tmps o) false f = true) (he : ∀ f ∈ pend, effK (jx ops o) st r f = true) (ha : ∀ f ∈ pend, effE (jx ops o) r f = true ∨ ∃ o2, ops[f.k]? = some o2 ∧ (qI P Γ ops (putX st o.dst r) o2).holds (fun r' => r' = ⟨f.x, [], []⟩)) (hopt : ∀ u want x, r.val = .opt u want x → u ∈ q7 ops st.tmps o) :
  Inv P Γ ops (i :: L) (putX st o.dst r) pend (listed.setIfInBounds i true) := by
 obtain ⟨hun, o', ho', hall⟩ := j9.1 hr
 rw [h1] at ho'; cases ho'
 have hset := kR hun
 have hlt : i < ops.size := (Array.getElem?_eq_some_iff.1 h1).1
 have hanc : ∀ f ∈ pend, f.k ∉ jx ops o := by
  intro f hf h
  have := Jc (T := fun k => listed.getD k false = true) I.cl hall f.k h
  exact ((I.T f.k).1 this).2 ⟨f, hf, rfl⟩
 have hnp : ∀ f ∈ pend, f.k ≠ i := fun f hf h => hiL (h ▸ I.key f hf)
 have hb' : ∀ f ∈ pend, (∀ d, o.dst = some d → d ∉ f.looks ∧ d ≠ f.d) ∧ f.d ∉ zG ops st.tmps o := by
  intro f hf
  have := hb f hf
  simp only [jK, List.contains_eq_mem, decide_eq_true_eq, hanc f hf, decide_false, Bool.false_and, Bool.false_or, Bool.and_eq_true, Bool.not_eq_true', decide_eq_false_iff_not] at this
  refine ⟨fun d hd => ?_, this.2⟩
  have h3 := this.1
  rw [hd] at h3
  simpa using h3
 have he' : ∀ f ∈ pend, z6 r.kill f.x = f.x ∧ (∀ t ∈ f.looks, z6 r.kill (st.tmps.getD t .undef) = st.tmps.getD t .undef) ∧ ∀ j ∈ f.labs, jR r.kill (st.heap.getD j .dead) = st.heap.getD j .dead := by
  intro f hf
  have := he f hf
  simp only [effK, List.contains_eq_mem, hanc f hf, decide_false, Bool.false_or, Bool.or_eq_true, Bool.and_eq_true, List.isEmpty_iff, List.all_eq_true] at this
  rcases this with h | ⟨h1, h2, h3⟩
  ·rw [h]; exact ⟨rfl, fun _ _ => rfl, fun _ _ => qN _⟩
  ·exact ⟨ki h1, fun t ht => ki (h2 t ht), fun j hj => Wb (h3 j hj)⟩
 have ha' : ∀ f ∈ pend, (∀ p ∈ r.eff, p.1 ∉ f.labs) ∨ ∃ o2, ops[f.k]? = some o2 ∧ (qI P Γ ops (putX st o.dst r) o2).holds (fun r' => r' = ⟨f.x, [], []⟩) := by
  intro f hf
  refine (ha f hf).imp (fun h => ?_) id
  simpa only [effE, List.contains_eq_mem, hanc f hf, decide_false, Bool.false_or, List.all_eq_true, Bool.not_eq_true', decide_eq_false_iff_not] using h
 refine ⟨fun k hk => ?_, fun k hk => ?_, fun k hk => ?_, ⟨fun o2 ho2 k hk => ?_, hiL, I.ok⟩, fun k hk => ?_, fun f hf => by simp [I.key f hf], I.uniq, I.ord, fun f hf => ?_, ?_, ?_⟩
 ·rw [hset]
  by_cases h : k = i
  ·subst h
   simp only [if_true, Bool.true_eq_false, List.mem_cons, true_or, not_true, false_or, false_iff]
   rintro ⟨f, hf, g⟩
   exact hnp f hf g
  ·rw [if_neg h, I.lis k hk]
   simp [h]
 ·rw [hset, hset, if_neg (fun h => hk (by omega)), if_neg (fun h => hk (by omega))]; exact I.out k hk
 ·rw [hset, hset]; split
  ·rfl
  ·exact I.lis2 k hk
 ·rw [h1] at ho2; cases ho2
  exact ((I.T k).1 (hall k hk)).1
 ·rcases List.mem_cons.1 hk with rfl | hk
  ·exact hlt
  ·exact I.lt k hk
 ·obtain ⟨o2, ho2⟩ := I.good f hf
  obtain ⟨g1, g2⟩ := hb' f hf
  obtain ⟨g3x, g3s, g3b⟩ := he' f hf
  have hs2 : ∀ t ∈ q7 ops st.tmps o2, (putX st o.dst r).tmps.getD t .undef = st.tmps.getD t .undef := Xb (fun d hd => by rw [ho2.looks]; exact (g1 d hd).1) (fun t ht => g3s t (by rw [← ho2.looks]; exact ht))
  have hlen : st.heap.length ≤ (putX st o.dst r).heap.length := by
   rw [wN]
   have hkl : (zL r.kill st.heap).length = st.heap.length := by simp [zQ]
   have := xC r.eff (zL r.kill st.heap)
   omega
  refine ⟨o2, ho2.op, ho2.dst, ?_, ?_, ho2.self, ?_, ?_, ?_⟩
  ·rcases ha' f hf with g4 | ⟨o3, g4, g5⟩
   ·have hheap : ∀ j ∈ f.labs, (putX st o.dst r).heap[j]? = st.heap[j]? := by
     intro j hj
     rw [wN]
     have hlt := ho2.lab j hj
     have hkl : (zL r.kill st.heap).length = st.heap.length := by simp [zQ]
     obtain ⟨k1, k2⟩ := yy (h := zL r.kill st.heap) (eff := r.eff) (i := j) (by omega) fun p hp h => g4 p hp (h ▸ hj)
     refine k1.trans ?_
     have := g3b j hj
     simp only [List.getD, List.getElem?_eq_getElem hlt, Option.getD_some] at this
     rw [zQ, List.getElem?_map, List.getElem?_eq_getElem hlt, Option.map_some, this]
    rw [jM hs2 (.inr ⟨_, ho2.quiet, hheap⟩)]; exact ho2.val
   ·rw [ho2.op] at g4; cases g4; exact g5
  ·rw [vR hs2]; exact ho2.looks
  ·rw [vF hs2, vf hs2]; exact ho2.quiet
  ·intro j hj
   exact Nat.lt_of_lt_of_le (ho2.lab j hj) hlen
  ·intro hl
   rw [wS] at hl
   rw [ju, ho2.slot hl, g3x]
   cases hd : o.dst with
   | none => rfl
   | some d =>
    simp only
    rw [if_neg (fun h => (g1 d hd).2 h.1.symm)]
    cases hx : f.x with
    | opt u want y =>
     simp only [zO]
     split
     ·rename_i hu
      subst hu
      exact absurd (ho2.WS hx) (g1 _ hd).1
     ·rfl
    | _ => simp only [zO]
 ·intro f hf t want x hx
  obtain ⟨g1, g2⟩ := hb' f hf
  rw [ju] at hx
  cases hd : o.dst with
  | none => rw [hd] at hx; exact I.Wl f hf t want x (uS hx)
  | some d =>
   rw [hd] at hx
   simp only at hx
   split at hx
   ·exact absurd (by simp [zG, hopt _ _ _ hx]) g2
   ·rcases vp d (z6 r.kill (st.tmps.getD t .undef)) with ⟨h, _⟩ | h
    ·rw [h] at hx; exact I.Wl f hf t want x (uS hx)
    ·rw [h] at hx; cases hx
 ·intro k o2 hk ho2 j hj
  rw [hset] at hk ⊢
  split
  ·rfl
  ·split at hk
   ·rename_i hke
    subst hke
    rw [h1] at ho2; cases ho2
    exact hall j hj
   ·exact I.cl k o2 hk ho2 j hj
theorem modB {D : List Nat} {o : Oper} {r : Res} {w' : World} {σ' : List SE} {a' : Act} (hm : Mod O pin w0 σ0 w' σ' (putX (mask D st) o.dst r) a') : Mod O pin w0 σ0 w' σ' (mask D (putX st o.dst r)) a' := by
 refine hm.weaken ?_ (by rw [jg, wS, wS, jg]) fun t => ?_
 ·show (putX st o.dst r).heap = _
  rw [wN, wN]; rfl
 ·rw [qF]
  by_cases h : t ∈ D
  ·rw [if_pos h]; exact .inr rfl
  ·rw [if_neg h, ju, ju, jg, qF, if_neg h]; exact .inl rfl
end
end Go.Sx
end

/- Regions whose order is open: the whole. -/
section
namespace Go.Sx
variable [Stat]
open Go.RowKit (Below)
section
variable {O : Nat → Prop} {pin : Nat} {w0 : World} {σ0 : List SE} {P : Program} {Γ : Nat → Option Ctr}
variable {ops : Array Oper} {Qe : Exit → Act → World → Prop}
def Fine (M : Option Nat) (P : Program) (Γ : Nat → Option Ctr) (O : Nat → Prop) (pin : Nat) (w0 : World) (σ0 : List SE) (ops : Array Oper) (Qe : Exit → Act → World → Prop) (L : List Nat) (res : List Ent) (st : St) : Prop :=
 ∀ (pend : List Ent) (listed : Array Bool) (fuel : Nat) (U : List Nat) (w : World) (σ : List SE) (a : Act), Inv P Γ ops L st pend listed → (∀ e ∈ pend, e ∈ res) →
  (∀ k, k < ops.size → listed.getD k true = false → k ∈ U) → U.length ≤ fuel → Mod O pin w0 σ0 w σ (mask (pend.map (·.d)) st) a → wpAnyIn (FM M) 0 P .any ops Qe fuel listed a w
theorem uV {α : Type} {Q : α → Prop} : ∀ {l : List (Tree α)}, (VN l).holds Q → ∀ t ∈ l, t.holds Q
 | [], _, t, ht => by cases ht
 | [t], h, t', ht => by simp only [List.mem_singleton] at ht; subst ht; exact h
 | t :: t2 :: l, h, t', ht => by
  simp only [VN, Tree.holds] at h
  rcases List.mem_cons.1 ht with rfl | ht
  ·exact (h.2 true trivial).1 rfl
  ·exact uV ((h.2 false trivial).2 rfl) t' ht
theorem YK {w : World} {σ : List SE} {st : St} {a : Act} (hm : Mod O pin w0 σ0 w σ (mask [] st) a) : Mod O pin w0 σ0 w σ st a :=
 hm.weaken rfl (by rw [jg]) fun t => .inl (by rw [qF]; simp)
theorem KH {x y : AV} {p : Prop} (h : QT x y = some p) (hp : p) : x = y := by
 unfold QT at h
 split at h
 ·cases h; rw [hp]
 ·split at h
  ·rename_i hk; cases h; rw [hk, hp]
  ·cases h
 ·cases h; rw [hp]
 ·split at h
  ·rename_i hk; rw [hk.1, hk.2]
  ·cases h
 ·split at h
  ·rename_i hk; cases h; rw [hk.1, hk.2.1, hk.2.2, hp]
  ·cases h
 ·cases h; rw [hp]
 ·rfl
 ·rfl
 ·rfl
 ·cases h; rw [hp.1, hp.2.1, hp.2.2]
 ·split at h
  ·rename_i hk; cases h; rw [hk.1, hk.2, hp.1, hp.2]
  ·cases h
 ·cases h
theorem yx {α : Type} {st : St} {Q : α → Prop} {t : Tree α} : ∀ {l : List Ent}, (yi P Γ ops st l t).holds Q → (∀ e ∈ l, ∃ o2, ops[e.k]? = some o2 ∧ (qI P Γ ops st o2).holds (fun r' => r' = ⟨e.x, [], []⟩)) ∧ t.holds Q
 | [], h => ⟨by simp, h⟩
 | e :: l, h => by
  simp only [yi] at h
  split at h
  ·rename_i o ho
   rw [Tree.zi] at h
   have key : ∀ r : Res, (match r with
     | ⟨x, [], []⟩ => match QT x e.x with
      | some p => Tree.side p (yi P Γ ops st l t)
      | none => .fail
     | _ => .fail).holds Q → r = ⟨e.x, [], []⟩ ∧ (yi P Γ ops st l t).holds Q := by
    intro r hr
    split at hr
    ·rename_i x
     split at hr
     ·rename_i p hp
      obtain ⟨h1, h2⟩ := hr
      exact ⟨by rw [KH hp h1], h2 h1⟩
     ·exact hr.elim
    ·exact hr.elim
   obtain ⟨r, hr⟩ := Tree.wB h
   obtain ⟨h1, h2⟩ := yx (key r hr).2
   refine ⟨fun f hf => ?_, h2⟩
   rcases List.mem_cons.1 hf with rfl | hf
   ·exact ⟨o, ho, Tree.zV (fun r hr => (key r hr).1) h⟩
   ·exact h1 f hf
  ·exact h.elim
theorem Zf {M : Option Nat} (hΓ : ∀ g c, Γ g = some c → zb P g c) {L : List Nat} {res : List Ent} {st : St}
  (h : (v8 ops L = [] ∧ ∀ w σ a, Mod O pin w0 σ0 w σ st a → Qe .normal a w) ∨
   v8 ops L ≠ [] ∧ ∀ i ∈ v8 ops L, ∃ o, ops[i]? = some o ∧ (∀ f ∈ res, jK (jx ops o) o.dst (zG ops st.tmps o) false f = true) ∧
    (qI P Γ ops st o).holds fun r => ((∀ f ∈ res, effK (jx ops o) st r f = true) ∧ ∀ f ∈ res, effE (jx ops o) r f = true ∨ ∃ o2, ops[f.k]? = some o2 ∧ (qI P Γ ops (putX st o.dst r) o2).holds (fun r' => r' = ⟨f.x, [], []⟩)) ∧ (∀ j ∈ r.kill, pin ≤ j) ∧ Fine M P Γ O pin w0 σ0 ops Qe (i :: L) res (putX st o.dst r)) :
  ∀ m, ∀ (pend : List Ent) (listed : Array Bool) (fuel : Nat) (U : List Nat) (w : World) (σ : List SE) (a : Act), pend.length ≤ m → Inv P Γ ops L st pend listed → (∀ e ∈ pend, e ∈ res) →
  (∀ k, k < ops.size → listed.getD k true = false → k ∈ U) → U.length ≤ fuel → Mod O pin w0 σ0 w σ (mask (pend.map (·.d)) st) a → wpAnyIn (FM M) 0 P .any ops Qe fuel listed a w := by
 intro m
 induction m using Nat.strongRecOn with
 | _ m ih =>
  intro pend listed fuel U w σ a hlen I hsub hU hfuel hm
  have hnone : Region.ready .any ops listed = [] → Qe .normal a w := by
   intro hnil
   have hp : pend = [] := by
    rcases Classical.em (pend = []) with h | h
    ·exact h
    ·obtain ⟨e, _, he⟩ := I.first h
     rw [hnil] at he; cases he
   subst hp
   rcases h with ⟨h1, h2⟩ | ⟨h1, h2⟩
   ·exact h2 w σ a (YK hm)
   ·exfalso
    obtain ⟨i, hi⟩ := List.exists_mem_of_ne_nil _ h1
    obtain ⟨g1, o2, g2, g3⟩ := kM.1 hi
    have hlt := (Array.getElem?_eq_some_iff.1 g2).1
    have : i ∈ Region.ready .any ops listed := j9.2 ⟨(I.lis i hlt).2 (.inl g1), o2, g2, fun k hk => (I.T k).2 ⟨g3 k hk, by simp⟩⟩
    rw [hnil] at this; cases this
  have hinU : ∀ k ∈ Region.ready .any ops listed, k ∈ U := by
   intro k hk
   obtain ⟨g1, o, g2, _⟩ := j9.1 hk
   exact hU k (Array.getElem?_eq_some_iff.1 g2).1 g1
  cases fuel with
  | zero =>
   have hnil : Region.ready .any ops listed = [] := by
    rw [List.eq_nil_iff_forall_not_mem]
    intro k hk
    have := hinU k hk
    rw [List.length_eq_zero_iff.1 (Nat.le_zero.1 hfuel)] at this
    cases this
   exact ⟨hnil, hnone hnil⟩
  | succ fuel =>
   refine ⟨hnone, fun k hk => ?_⟩
   obtain ⟨hun, ok, hok, hall⟩ := j9.1 hk
   have hkU := hinU k hk
   have hUe : ∀ j, j < ops.size → (listed.setIfInBounds k true).getD j true = false → j ∈ U.erase k := by
    intro j hj hl
    rw [kR hun] at hl
    split at hl
    ·cases hl
    ·rename_i hne
     exact (List.mem_erase_of_ne hne).2 (hU j hj hl)
   have hUl : (U.erase k).length ≤ fuel := by
    rw [List.length_erase_of_mem hkU]; omega
   by_cases hp : ∃ e ∈ pend, e.k = k
   ·obtain ⟨e, he, rfl⟩ := hp
    obtain ⟨o, ho⟩ := I.good e he
    have hoo : o = ok := by rw [ho.op] at hok; exact Option.some.inj hok
    subst hoo
    have hcl := I.clear he hk
    have hcore : ∀ t ∈ q7 ops st.tmps o, (mask (pend.map (·.d)) st).tmps.getD t .undef = st.tmps.getD t .undef := by
     intro t ht
     rw [qF, if_neg]
     intro hd
     obtain ⟨f, hf, hft⟩ := List.mem_map.1 hd
     have htl : t ∈ e.looks := by rw [← ho.looks]; simp [zG, ht]
     by_cases hfe : f.k = e.k
     ·have := I.uniq f hf e he hfe
      subst this
      exact ho.self (hft ▸ htl)
     ·exact (hcl f hf hfe).1 (hft ▸ htl)
    have hq : (qI P Γ ops (mask (pend.map (·.d)) st) o).holds (fun r => r = ⟨e.x, [], []⟩) := by
     rw [jM hcore (.inl rfl)]; exact ho.val
    have := kb (M := M) hΓ hm (Qe := Qe) (K := wpAnyIn (FM M) 0 P .any ops Qe fuel (listed.setIfInBounds e.k true)) hq (fun r w' σ' v hr hM => by
     subst hr
     have hM := hM (by simp)
     rw [ho.dst] at hM ⊢
     refine ih (pend.filter fun f => f.k != e.k).length ?_ _ _ fuel (U.erase e.k) w' σ' _ (Nat.le_refl _) (I.zes he hk) (fun f hf => hsub f (List.mem_filter.1 hf).1) hUe hUl (modA I he hk hM)
     refine Nat.lt_of_lt_of_le ?_ hlen
     exact List.length_filter_lt_length_iff_exists.2 ⟨e, he, by simp⟩)
    unfold wpOpIn
    rw [ho.op]
    simp only
    split
    ·rename_i hw; rw [if_pos hw] at this; exact this
    ·rename_i hw; rw [if_neg hw] at this; exact this
   ·have hkL : k ∉ L := by
     have hlt := (Array.getElem?_eq_some_iff.1 hok).1
     rcases (I.lis k hlt).1 hun with h1 | h1
     ·exact h1
     ·exact absurd h1 hp
    have hkr : k ∈ v8 ops L := kM.2 ⟨hkL, ok, hok, fun j hj => ((I.T j).1 (hall j hj)).1⟩
    rcases h with ⟨h1, h2⟩ | ⟨h1, hall2⟩
    ·rw [h1] at hkr; cases hkr
    ·obtain ⟨o, h2, h3, h4⟩ := hall2 k hkr
     have hoo : o = ok := by rw [h2] at hok; exact Option.some.inj hok
     subst hoo
     have hb : ∀ f ∈ pend, jK (jx ops o) o.dst (zG ops st.tmps o) false f = true := fun f hf => h3 f (hsub f hf)
     have hcore : ∀ t ∈ q7 ops st.tmps o, (mask (pend.map (·.d)) st).tmps.getD t .undef = st.tmps.getD t .undef := by
      intro t ht
      rw [qF, if_neg]
      intro hd
      obtain ⟨f, hf, hft⟩ := List.mem_map.1 hd
      have hanc : f.k ∉ jx ops o := fun h' => by
       have := Jc (T := fun k => listed.getD k false = true) I.cl hall f.k h'
       exact ((I.T f.k).1 this).2 ⟨f, hf, rfl⟩
      have := hb f hf
      simp only [jK, List.contains_eq_mem, hanc, decide_false, Bool.false_and, Bool.false_or, Bool.and_eq_true, Bool.not_eq_true', decide_eq_false_iff_not] at this
      exact this.2 (by rw [hft]; simp [zG, ht])
     have hq := ZE h4
     rw [← jM (P := P) (Γ := Γ) hcore (.inl rfl)] at hq
     have := kb (M := M) hΓ hm (Qe := Qe) (K := wpAnyIn (FM M) 0 P .any ops Qe fuel (listed.setIfInBounds k true)) hq (fun r w' σ' v hr hM => by
      obtain ⟨⟨g1, g2, g3⟩, g4⟩ := hr
      have hM := hM g2
      exact g3 pend _ fuel (U.erase k) w' σ' _ (I.zf3 h2 hkL hk hb (fun f hf => g1.1 f (hsub f hf)) (fun f hf => g1.2 f (hsub f hf)) g4) hsub hUe hUl (modB hM))
     unfold wpOpIn
     rw [h2]
     simp only
     split
     ·rename_i hw; rw [if_pos hw] at this; exact this
     ·rename_i hw; rw [if_neg hw] at this; exact this
theorem uw {M : Option Nat} (hΓ : ∀ g c, Γ g = some c → zb P g c) {Q : St → Prop} (hQe : ∀ st' w' σ' a', Q st' → Mod O pin w0 σ0 w' σ' st' a' → Qe .normal a' w') :
  ∀ (n : Nat) (L : List Nat) (res : List Ent) (st : St), (anyX P Γ pin ops n L res st).holds Q → Fine M P Γ O pin w0 σ0 ops Qe L res st
 | 0, L, res, st, hq => by simp only [anyX] at hq; exact hq.elim
 | n + 1, L, res, st, hq => by
  simp only [anyX] at hq
  split at hq
  ·rename_i hnil
   intro pend listed fuel U w σ a I hs hU hf hm
   exact Zf hΓ (.inl ⟨hnil, fun w σ a hm => hQe _ _ _ _ hq hm⟩) pend.length pend listed fuel U w σ a (Nat.le_refl _) I hs hU hf hm
  ·rename_i i0 rs hrs
   split at hq
   ·
    rename_i e hfind
    split at hq
    ·rename_i o ho
     split at hq
     ·rename_i hcond
      simp only [Bool.and_eq_true, List.all_eq_true] at hcond
      obtain ⟨hbes, hmem⟩ := hcond
      obtain ⟨j, hj, hent0⟩ := List.exists_of_findSome?_eq_some hfind
      have hent : Yg P Γ ops st j = some e := by
       unfold zd4 at hent0
       split at hent0
       ·split at hent0
        ·split at hent0
         ·cases hent0; assumption
         ·cases hent0
        ·cases hent0
       ·cases hent0
      unfold Yg at hent
      split at hent
      ·rename_i o2 ho2
       split at hent
       ·rename_i d ls hd hls
        split at hent
        ·cases hent
        ·rename_i hcon
         split at hent
         ·rename_i ps x hch
          cases hent
          simp only at ho hq hbes hmem
          have hoo : o2 = o := by rw [ho2] at ho; exact Option.some.inj ho
          subst hoo
          rw [Tree.zi] at hq
          obtain ⟨hq1, hq2⟩ := uR hch hq
          have hF := uw (M := M) hΓ hQe n _ _ _ hq1
          simp only [Bool.or_eq_true, List.contains_eq_mem, decide_eq_true_eq, Bool.not_eq_true', List.all_eq_false, not_or, not_exists, not_and, Bool.not_eq_false] at hcon
          intro pend listed fuel U w σ a I hs hU hf hm
          have hrd : j ∈ v8 ops L := by rw [hrs]; simpa using hmem
          rw [hd] at hF
          refine hF (_ :: pend) listed fuel U w σ a (I.ahead (e := ⟨j, d, zG ops st.tmps o2, ls, x⟩) ho2 hd hq2 rfl hcon.1 hls (fun i hi => by simpa using hcon.2 i hi) hrd ?_) ?_ hU hf (modC (e := ⟨j, d, zG ops st.tmps o2, ls, x⟩) hm)
          ·intro f hf'
           have := hbes f (hs f hf')
           rw [hd] at this
           exact this
          ·intro f hf'
           rcases List.mem_cons.1 hf' with rfl | hf'
           ·simp
           ·simp [hs f hf']
         ·cases hent
       ·cases hent
      ·cases hent
     ·exact hq.elim
    ·exact hq.elim
   ·intro pend listed fuel U w σ a I hs hU hf hm
    refine Zf hΓ (.inr ⟨by rw [hrs]; simp, fun i hi => ?_⟩) pend.length pend listed fuel U w σ a (Nat.le_refl _) I hs hU hf hm
    rw [hrs] at hi
    have hq := uV hq _ (List.mem_map_of_mem hi)
    split at hq
    ·rename_i o ho
     split at hq
     ·rename_i hbes
      rw [List.all_eq_true] at hbes
      rw [Tree.zi] at hq
      refine ⟨o, ho, hbes, Tree.zV ?_ hq⟩
      intro r hr
      split at hr
      ·rename_i he
       rw [List.all_eq_true] at he
       obtain ⟨h1, h2⟩ := ZX hr
       obtain ⟨h3, h4⟩ := yx h2
       refine ⟨⟨he, fun f hf => ?_⟩, h1, uw (M := M) hΓ hQe n _ _ _ h4⟩
       cases hE : effE (jx ops o) r f with
       | true => exact .inl rfl
       | false => exact .inr (h3 f (List.mem_filter.2 ⟨hf, by rw [hE]; rfl⟩))
      ·exact hr.elim
     ·exact hq.elim
    ·exact hq.elim
theorem Xy {M : Option Nat} (hmix : P.follows .mixedOrders = true) (hΓ : ∀ g c, Γ g = some c → zb P g c) {Q : St → Prop} {w : World} {σ : List SE} {st : St} {a : Act} {n id : Nat} (hq : (anyX P Γ pin ops n [] [] st).holds Q) (hm : Mod O pin w0 σ0 w σ st a)
  (hQe : ∀ st' w' σ' a', Q st' → Mod O pin w0 σ0 w' σ' st' a' → Qe .normal a' w') : (Code.region id ops true).wpIn (FM M) 0 P Qe a w := by
 refine wpIn_region_any hmix ?_
 have hF := uw (M := M) hΓ hQe n [] [] st hq
 have hget : ∀ k, (Array.replicate ops.size false).getD k true = decide (¬ k < ops.size) ∧ (Array.replicate ops.size false).getD k false = false := by
  intro k
  by_cases hk : k < ops.size <;> simp [hk]
 refine hF [] _ ops.size (List.range ops.size) _ σ a ⟨fun k hk => by simp [hk], fun k hk => by simp [hk], fun k hk => by simp [hk], trivial, by simp, by simp, by simp, by simp, by simp, by simp, fun k o hk => ?_⟩ (by simp) (fun k hk _ => by simpa using hk) (by simp) ?_
 ·rw [(hget k).2] at hk; cases hk
 ·have hx : Ext (Own O σ) w (Own O σ) { w with drawn := w.drawn + 1 } := ⟨rfl, rfl, rfl, Nat.le_refl _, fun _ _ _ => rfl, fun _ h => .inl h⟩
  have hh : Hold [] w σ { w with drawn := w.drawn + 1 } σ := fun _ _ h _ => ⟨h, fun _ _ cs el h => ⟨cs, el, h, rfl⟩⟩
  have hm2 : Mod O pin w0 σ0 { w with drawn := w.drawn + 1 } σ st a := by
   refine ⟨⟨hm.good.old, hm.good.dis, hm.good.stat.ext hx⟩, ⟨hm.hp.len, hm.hp.inj, hm.hp.lt, fun i e b he hb => ?_⟩, hm.size, fun t => ?_, hm.df.ext hx, hm.since.trans ⟨hx, fun _ _ _ => rfl, wR.of hh (by simp)⟩, hm.lim⟩
   ·have := qC hx hh (hm.hp.blk i e b he hb) (fun _ _ => rfl)
    rwa [qN] at this
   ·exact Z9 (K := []) hx hh (hm.tm t) (fun _ _ _ _ => rfl)
  exact hm2.weaken rfl (by rw [List.map_nil, jg]) fun t => .inl (by rw [qF]; simp)
end
end Go.Sx
end

/- Regions, code, loops, functions: the executor's word is the model's. -/
section
namespace Go.Sx
variable [Stat]
open Go.RowKit (Below)
section
variable {O : Nat → Prop} {pin : Nat} {w0 : World} {σ0 : List SE} {w : World} {σ : List SE} {P : Program} {st : St} {a : Act} {Γ : Nat → Option Ctr}
theorem ZY {M : Option Nat} (hΓ : ∀ g c, Γ g = some c → zb P g c) {ops : Array Oper} {Q : St → Prop} {Qe : Exit → Act → World → Prop} (hK : ∀ st' w' σ' a', Q st' → Mod O pin w0 σ0 w' σ' st' a' → Qe .normal a' w') :
  ∀ (l : List Oper) {st : St} {w : World} {σ : List SE} {a : Act}, Mod O pin w0 σ0 w σ st a → (opsX P Γ pin ops l st).holds Q → wpListIn (FM M) 0 P ops Qe l a w
 | [], st, w, σ, a, hm, hq => hK st w σ a hq hm
 | o :: l, st, w, σ, a, hm, hq => by
  simp only [opsX, Tree.zi] at hq
  exact wpListIn_step fun K hKK => WV hΓ hm hq (fun st' w' σ' a' hq' hm' => hKK _ _ (ZY hΓ hK l hm' hq'))
theorem yW (hm : Mod O pin w0 σ0 w σ st a) : Mod O pin w0 σ0 w σ (xb st) a := by
 refine ⟨hm.good, hm.hp, by simp [xb, hm.size], fun t => ?_, hm.df, hm.since, hm.lim⟩
 have h := hm.tm t
 have : (xb st).tmps.getD t .undef = (fun | .opt _ _ _ => .undef | x => x) (st.tmps.getD t .undef) := getD_map rfl _ _
 rw [this]
 generalize st.tmps.getD t .undef = x at h
 cases x <;> simp only [TRep] at h ⊢ <;> first | exact h | simp [Rep]
def wpK (M : Option Nat) (P : Program) (H : Nat → Act → World → Prop) (B : Exit → Act → World → Prop) : List Item → Exit → Act → World → Prop
 | [], e, a, w => B e a w
 | .code c :: k, .normal, a, w => c.wpIn (FM M) 0 P (wpK M P H B k) a w
 | .code _ :: k, e, a, w => wpK M P H B k e a w
 | .inBlock _ :: k, .normal, a, w => wpK M P H B k .normal a w
 | .inBlock id :: k, .exit i, a, w => if i = id then wpK M P H B k .normal a w else wpK M P H B k (.exit i) a w
 | .inBlock _ :: k, e, a, w => wpK M P H B k e a w
 | .inLoop :: k, .normal, a, w => H (wa k) a w
 | .inLoop :: k, e, a, w => wpK M P H B k e a w
section
variable {H : Nat → Act → World → Prop} {B : Exit → Act → World → Prop}
theorem x3 {M : Option Nat} : ∀ {k : List Item} {a : Act} {w : World}, B .ret a w → wpK M P H B k .ret a w
 | [], _, _, h => h
 | .code _ :: k, _, _, h => x3 (k := k) h
 | .inBlock _ :: k, _, _, h => x3 (k := k) h
 | .inLoop :: k, _, _, h => x3 (k := k) h
theorem x4 {M : Option Nat} {id : Nat} : ∀ {k k' : List Item} {a : Act} {w : World}, exitTo id k = some k' → wpK M P H B k' .normal a w → wpK M P H B k (.exit id) a w
 | [], _, _, _, h, _ => by simp [exitTo] at h
 | .code _ :: k, _, _, _, h, hk => x4 (k := k) (by simpa [exitTo] using h) hk
 | .inLoop :: k, _, _, _, h, hk => x4 (k := k) (by simpa [exitTo] using h) hk
 | .inBlock i :: k, _, _, _, h, hk => by
  simp only [exitTo] at h
  simp only [wpK]
  split at h
  ·rename_i hi
   cases h
   rw [if_pos hi.symm]; exact hk
  ·rename_i hi
   rw [if_neg (fun e => hi e.symm)]
   exact x4 h hk
def xX (M : Option Nat) (P : Program) (H : Nat → Act → World → Prop) (B : Exit → Act → World → Prop) (O : Nat → Prop) (pin : Nat) (w0 : World) (σ0 : List SE) : Leaf → Prop
 | .ret st => ∀ w σ a, Mod O pin w0 σ0 w σ st a → B .ret a w ∧ B .normal a w
 | .back d st => ∀ w σ a, Mod O pin w0 σ0 w σ st a → H d a w
 | .loop c k st => ∀ w σ a, Mod O pin w0 σ0 w σ st a → (Code.loop c).wpIn (FM M) 0 P (wpK M P H B k) a w
 | .range c k st => ∀ w σ a, Mod O pin w0 σ0 w σ st a → c.wpIn (FM M) 0 P (wpK M P H B k) a w
theorem qn {M : Option Nat} (hmix : P.follows .mixedOrders = true) (hΓ : ∀ g c, Γ g = some c → zb P g c) : ∀ (n : Nat) {k : List Item} {st : St} {w : World} {σ : List SE} {a : Act}, (run P Γ pin n k st).holds (xX M P H B O pin w0 σ0) → Mod O pin w0 σ0 w σ st a → wpK M P H B k .normal a w
 | 0, k, st, w, σ, a, hq, hm => by simp only [run] at hq; exact hq.elim
 | n + 1, [], st, w, σ, a, hq, hm => by
  simp only [run, Tree.holds, xX] at hq
  exact (hq w σ a hm).2
 | n + 1, .inBlock id :: k, st, w, σ, a, hq, hm => by
  simp only [run] at hq
  have := qn hmix hΓ n hq hm
  simpa only [wpK] using this
 | n + 1, .inLoop :: k, st, w, σ, a, hq, hm => by
  simp only [run, Tree.holds, xX] at hq
  exact hq w σ a hm
 | n + 1, .code c :: k, st, w, σ, a, hq, hm => by
  simp only [wpK]
  cases c with
  | skip =>
   simp only [run] at hq
   exact wpIn_skip (qn hmix hΓ n hq hm)
  | seq x y =>
   simp only [run] at hq
   have := qn hmix hΓ n hq hm
   simp only [wpK] at this
   refine wpIn_seq (wpIn_mono this fun e a w h => ?_)
   cases e <;> exact h
  | region id ops draw =>
   cases draw with
   | true =>
    simp only [run, Tree.zi, force_eq] at hq
    exact Xy hmix hΓ hq hm fun st' w' σ' a' hq' hm' => qn hmix hΓ n hq' (yW hm')
   | false =>
    simp only [run, Tree.zi, force_eq] at hq
    exact wpIn_region_list (ZY hΓ (fun st' w' σ' a' hq' hm' => qn hmix hΓ n hq' (yW hm')) _ hm hq)
  | cond c x y =>
   cases c with
   | tmp t =>
    simp only [run] at hq
    have ht := hm.tm t
    generalize st.tmps.getD t .undef = v at ht hq
    cases v with
    | bool b =>
     simp only [TRep, Rep] at ht
     simp only [Tree.holds] at hq
     refine wpIn_cond (t := b) ht ?_
     cases b with
     | true =>
      have := qn hmix hΓ n (hq.1 rfl) hm
      simpa only [wpK, if_true] using this
     | false =>
      have := qn hmix hΓ n (hq.2 rfl) hm
      simpa only [wpK, Bool.false_eq_true, if_false] using this
    | _ => exact hq.elim
   | _ => simp only [run] at hq; exact hq.elim
  | block id c =>
   simp only [run] at hq
   have := qn hmix hΓ n hq hm
   simp only [wpK] at this
   refine wpIn_block (wpIn_mono this fun e a w h => ?_)
   cases e <;> exact h
  | loop c =>
   simp only [run, Tree.holds, xX] at hq
   exact hq w σ a hm
  | rangeFunc g ps x y =>
   simp only [run, Tree.holds, xX] at hq
   exact hq w σ a hm
  | exit id =>
   simp only [run] at hq
   split at hq
   ·rename_i k' hk
    exact wpIn_exit (x4 hk (qn hmix hΓ n hq hm))
   ·exact hq.elim
  | ret =>
   simp only [run, Tree.holds, xX] at hq
   exact wpIn_ret (x3 (hq w σ a hm).1)
  | _ => simp only [run] at hq; exact hq.elim
end
end
end Go.Sx
end

/- A step of the world that leaves all cells as they are. -/
section
namespace Go.Sx
variable [Stat]
open Go.RowKit (Below)
structure jA (w w' : World) : Prop where
 cells : ∀ (b : Nat) (cs : Array Value) (el : TypeId) (fr : Nat × Nat), w.heap[b]? = some (Obj.cells cs el fr) → w'.heap[b]? = some (Obj.cells cs el fr)
 maps : ∀ (b : Nat) (es : Array MapEntry) (clock : Nat), (∃ g, WK w b g) → w.heap[b]? = some (.map es clock) → w'.heap[b]? = some (.map es clock)
theorem jA.cell {w w' : World} (h : jA w w') {a : Addr} {c : Value} (hc : w.cell? a = some c) : w'.cell? a = some c := by
 unfold World.cell? at hc ⊢
 cases hb : w.heap[a.block]? with
 | none => simp [hb] at hc
 | some o =>
  rw [hb] at hc
  cases o with
  | cells cs el fr => rw [h.cells _ _ _ _ hb]; exact hc
  | _ => simp at hc
mutual
theorem qV {own : Nat → Prop} {w w' : World} (hx : jA w w') (σ : List SE) : ∀ (a : AV) (v : Value), Rep own w a σ v → Rep own w' a σ v
 | .undef, _, _ => by simp [Rep]
 | .bool b, v, h => by simpa [Rep] using h
 | .int k n, v, h => by simpa [Rep] using h
 | .str s, v, h => by simpa [Rep] using h
 | .nils, v, h => by simpa [Rep] using h
 | .sl n sz get, v, h => by
  simp only [Rep] at h ⊢
  obtain ⟨a, cap, hv, hle, hr⟩ := h
  refine ⟨a, cap, hv, hle, ?_⟩
  rcases hr with hr | ⟨ad, ha, hs, hr⟩
  ·exact .inl hr
  ·refine .inr ⟨ad, ha, hs, fun j o hj ho => ?_⟩
   obtain ⟨hn, c, hc, h1, hR⟩ := hr j o hj ho
   exact ⟨hn, c, hx.cell hc, h1, qV hx [] (get j o) c hR⟩
 | .osl i sz off n, v, h => by
  simp only [Rep] at h ⊢
  obtain ⟨e, he, hl, a, cap, hv, hc, hr⟩ := h
  refine ⟨e, he, hl, a, cap, hv, hc, ?_⟩
  rcases hr with hr | ⟨ad, ha, hb, cs, el, hcs, hsz⟩
  ·exact .inl hr
  ·exact .inr ⟨ad, ha, hb, cs, el, hx.cells _ _ _ _ hcs, hsz⟩
 | .ptr i off, v, h => by simpa only [Rep] using h
 | .nilp, v, h => by simpa [Rep] using h
 | .eptr i sz idx off, v, h => by simpa only [Rep] using h
 | .iptr m get, v, h => by
  simp only [Rep] at h ⊢
  obtain ⟨ad, hv, hs, hr⟩ := h
  refine ⟨ad, hv, hs, fun o ho => ?_⟩
  obtain ⟨hn, c, hc, hR⟩ := hr o ho
  exact ⟨hn, c, hx.cell hc, qV hx [] (get o) c hR⟩
 | .gptr g, v, h => by simpa [Rep] using h
 | .agg cs, v, h => by
  simp only [Rep] at h ⊢
  obtain ⟨vs, hv, hr⟩ := h
  exact ⟨vs, hv, jD hx σ cs vs hr⟩
 | .tup cs, v, h => by
  simp only [Rep] at h ⊢
  obtain ⟨vs, hv, hr⟩ := h
  exact ⟨vs, hv, jD hx σ cs vs hr⟩
 | .fn f a b, v, h => by
  simp only [Rep] at h ⊢
  obtain ⟨va, vb, hv, hr, hr2⟩ := h
  exact ⟨va, vb, hv, jD hx σ a va hr, jD hx σ b vb hr2⟩
 | .nilf, v, h => by simpa [Rep] using h
 | .opt _ _ _, _, _ => by simp [Rep]
 | .mp k ag sz ks has get, v, h => by
  simp only [Rep] at h ⊢
  obtain ⟨b, es, clock, hv, hn, hlim, hb, hg⟩ := h
  refine ⟨b, es, clock, hv, hn, (by
   obtain ⟨g, h1, h2, h3⟩ := hlim
   exact ⟨g, h1, h2, hx.cell h3⟩), hx.maps b es clock (hlim.imp fun g h => h.2) hb, fun n => ⟨(hg n).1, fun h1 => ?_⟩⟩
  obtain ⟨i, x, h2, h3⟩ := (hg n).2 h1
  refine ⟨i, x, h2, ?_⟩
  cases ag with
  | true =>
   obtain ⟨vs, e1, e2, e3⟩ := h3
   exact ⟨vs, e1, e2, fun o ho => by
    obtain ⟨c, g1, g2⟩ := e3 o ho
    exact ⟨c, g1, qV hx [] (get n o) c g2⟩⟩
  | false => exact qV hx [] (get n 0) x h3
theorem jD {own : Nat → Prop} {w w' : World} (hx : jA w w') (σ : List SE) : ∀ (l : List AV) (vs : List Value), RepL own w l σ vs → RepL own w' l σ vs
 | [], vs, h => by simpa [RepL] using h
 | a :: l, vs, h => by
  simp only [RepL] at h ⊢
  obtain ⟨v, r, hv, h1, h2⟩ := h
  exact ⟨v, r, hv, qV hx σ a v h1, jD hx σ l r h2⟩
end
theorem Vg {own : Nat → Prop} {w w' : World} (hx : jA w w') {σ : List SE} {e : SE} {b : Blk} (h : BRep own w σ e b) : BRep own w' σ e b := by
 cases b with
 | dead => trivial
 | box cells =>
  obtain ⟨ad, vs, el, h1, h2, h3, h4⟩ := h
  exact ⟨ad, vs, el, h1, h2, hx.cells _ _ _ _ h3, jD hx σ _ _ h4⟩
 | arr n sz g =>
  obtain ⟨h1, h2⟩ := h
  refine ⟨h1, ?_⟩
  rcases h2 with h2 | ⟨ad, cs, el, h3, h4, h5, h6⟩
  ·exact .inl h2
  ·refine .inr ⟨ad, cs, el, h3, hx.cells _ _ _ _ h4, h5, fun j o hj ho => ?_⟩
   obtain ⟨c, h7, h8, h9⟩ := h6 j o hj ho
   exact ⟨c, h7, h8, qV hx [] _ _ h9⟩
theorem Vm {own : Nat → Prop} {w w' : World} (hx : jA w w') (hs : w.heap.size ≤ w'.heap.size) {σ : List SE} {h : Heap} (hh : HRep own w σ h) : HRep own w' σ h :=
 ⟨hh.len, hh.inj, fun i e a h1 h2 => Nat.lt_of_lt_of_le (hh.lt i e a h1 h2) hs, fun i e b h1 h2 => Vg hx (hh.blk i e b h1 h2)⟩
theorem QS {w w' : World} {row : Option Nat} (hg : w.grownBy w' row) (hr : ∀ r, row = some r → (∀ g, ¬ WK w r g) ∧ ∃ o : Obj, w.heap[r]? = some o ∧ o.isCells = false) : jA w w' := by
 refine ⟨fun b cs el fr hb => ?_, fun b es clock hl hb => ?_⟩
 rotate_left
 ·rw [hg.block b (Array.getElem?_eq_some_iff.1 hb).1 fun e => by obtain ⟨g, h⟩ := hl; exact (hr b e.symm).1 g h]
  exact hb
 have hlt := (Array.getElem?_eq_some_iff.1 hb).1
 rw [hg.block b hlt ?_]
 ·exact hb
 ·intro e
  obtain ⟨_, o, h1, h2⟩ := hr b e.symm
  rw [hb] at h1
  cases h1
  simp [Obj.isCells] at h2
theorem WG {w w' : World} {row : Option Nat} (hg : w.grownBy w' row) (hr : ∀ r, row = some r → ∃ o : Obj, w.heap[r]? = some o ∧ o.isCells = false) {a : Addr} {c : Value} (hc : w.cell? a = some c) : w'.cell? a = some c := by
 unfold World.cell? at hc ⊢
 cases hb : w.heap[a.block]? with
 | none => simp [hb] at hc
 | some o =>
  rw [hb] at hc
  have hlt := (Array.getElem?_eq_some_iff.1 hb).1
  rw [hg.block a.block hlt fun e => by
   obtain ⟨o', h1, h2⟩ := hr _ e.symm
   rw [hb] at h1
   cases h1
   cases o with
   | cells _ _ _ => simp [Obj.isCells] at h2
   | _ => simp at hc, hb]
  exact hc
section
variable {O : Nat → Prop} {pin : Nat} {w0 : World} {σ0 : List SE} {w w' : World} {σ : List SE} {P : Program} {st : St} {a : Act}
theorem Mod.turn (hm : Mod O pin w0 σ0 w σ st a) {row : Option Nat} (hg : w.grownBy w' row) (hr : ∀ r, row = some r → w0.heap.size ≤ r ∧ ∃ o : Obj, w.heap[r]? = some o ∧ o.isCells = false) {ds : List Deferred} (hds : Marks w0 (Own O σ) w' ds) : Mod O pin w0 σ0 w' σ st { a with defers := ds } := by
 have hx := QS hg fun r h => ⟨fun g hg => by
  obtain ⟨h1, h2⟩ := hg
  obtain ⟨a, ha⟩ := Option.isSome_iff_exists.1 h1
  obtain ⟨h3, c, h4, _, h5⟩ := hm.lim.at_ g a ha
  have h6 := hm.since.ext.cell (a := ⟨g, 0, none⟩) h3 h4
  rw [h2] at h6
  have := h5 r (by cases h6; rfl)
  have := (hr r h).1
  omega, (hr r h).2⟩
 have hlow : ∀ b, b < w0.heap.size → w'.heap[b]? = w.heap[b]? := by
  intro b hb
  refine hg.block b (Nat.lt_of_lt_of_le hb hm.since.ext.size) fun e => ?_
  have := (hr b e.symm).1
  omega
 refine ⟨⟨fun b hb => Nat.lt_of_lt_of_le (hm.good.old b hb) hg.size, hm.good.dis, ⟨fun g a hz => by
  obtain ⟨h1, c, h2, h3, h4⟩ := hm.good.stat.at_ g a hz
  exact ⟨h1, c, hx.cell h2, qV hx [] a _ h3, fun b hb => Nat.lt_of_lt_of_le (h4 b hb) hg.size⟩⟩⟩, Vm hx hg.size hm.hp, hm.size, fun t => ?_, hds, ?_, hm.lim⟩
 ·have ht := hm.tm t
  show TRep (Own O σ) w' σ a.tmps (st.tmps.getD t .undef) (a.tmps.getD t undef)
  generalize st.tmps.getD t .undef = x at ht
  cases x with
  | opt u want y =>
   simp only [TRep] at ht ⊢
   rcases ht with ⟨h1, h2⟩ | h
   ·exact .inl ⟨h1, qV hx σ _ _ h2⟩
   ·exact .inr h
  | _ => simp only [TRep] at ht ⊢; exact qV hx σ _ _ ht
 ·refine ⟨⟨hg.os.trans hm.since.ext.os, hg.tape.trans hm.since.ext.tape, hg.output.trans hm.since.ext.output, Nat.le_trans hm.since.ext.size hg.size, fun b hb hn => ?_, hm.since.ext.grow⟩, fun b hO hb => ?_, fun i e hi he => ?_⟩
  ·rw [hlow b hb]; exact hm.since.ext.keep b hb hn
  ·rw [hlow b hb]; exact hm.since.kD b hO hb
  ·obtain ⟨h1, h2⟩ := hm.since.hold i e hi he
   refine ⟨h1, fun ad had cs el hcs => ?_⟩
   obtain ⟨cs', el', h3, h4⟩ := h2 ad had cs el hcs
   exact ⟨cs', el', hx.cells _ _ _ _ h3, h4⟩
theorem Marks.turn {own : Nat → Prop} {ds : List Deferred} (h : Marks w0 own w ds) {row : Option Nat} (hg : w.grownBy w' row) (hr : ∀ r, row = some r → { target := .collected r, args := #[] } ∉ ds) : Marks w0 own w' ds :=
 ⟨h.1, fun d hd => by
  obtain ⟨D, h1, h2, h3, h4⟩ := h.2 d hd
  refine ⟨D, h1, h2, h3, ?_⟩
  rw [hg.block D (Array.getElem?_eq_some_iff.1 h4).1 fun e => hr D e.symm (h1 ▸ hd)]
  exact h4⟩
theorem xe {fn : Func} {R : Ending → World → Prop} {tmps : Array Value} : ∀ (ds : List Deferred) (w : World), Mod O pin w0 σ0 w σ st { tmps := tmps, defers := ds } →
  (∀ w', Mod O pin w0 σ0 w' σ st { tmps := tmps, defers := [] } → ∃ v, (results fn tmps).run P w' = .ok v w' ∧ R (.returned v) w') → LeavesInM Fence.wide 0 P fn tmps R ds .returning w
 | [], w, hm, h => h w hm
 | d :: ds, w, hm, h => by
  obtain ⟨D, h1, h2, h3, h4⟩ := hm.df.2 d (by simp)
  subst h1
  have hnd := List.nodup_cons.1 hm.df.1
  refine ⟨by simp, .inl ⟨D, w.putObj D (.deferred none), rfl, run_takeDeferred h4, ?_⟩⟩
  have hg := grownBy_putObj' w D (.deferred none)
  have hsub : Marks w0 (Own O σ) w ds := ⟨hnd.2, fun d' hd' => hm.df.2 d' (by simp [hd'])⟩
  have hm2 := hm.turn hg (fun r e => by cases e; exact ⟨h2, _, h4, rfl⟩) (hsub.turn hg fun r e => by cases e; exact hnd.1)
  exact xe ds _ hm2 h
end
end Go.Sx
end

/- What a prover uses: states below states, loops, functions. -/
section
namespace Go.Sx
variable [Stat]
open Go.RowKit (Below)
def LeA (a b : AV) : Prop := ∀ own w σ v, Rep own w a σ v → Rep own w b σ v
theorem LeA.refl (a : AV) : LeA a a := fun _ _ _ _ h => h
theorem LeA.undef (a : AV) : LeA a .undef := fun _ _ _ _ _ => by simp [Rep]
theorem LeA.sl {n n' sz : Nat} {g g' : Nat → Nat → AV} (hn : n = n') (hg : ∀ j o, j < n → o < sz → LeA (g j o) (g' j o)) : LeA (.sl n sz g) (.sl n' sz g') := by
 subst hn
 intro own w σ v h
 simp only [Rep] at h ⊢
 obtain ⟨a, cap, hv, hc, hr⟩ := h
 refine ⟨a, cap, hv, hc, ?_⟩
 rcases hr with hr | ⟨ad, h1, h2, h3⟩
 ·exact .inl hr
 ·refine .inr ⟨ad, h1, h2, fun j o hj ho => ?_⟩
  obtain ⟨h4, c, h5, h6, h7⟩ := h3 j o hj ho
  exact ⟨h4, c, h5, h6, hg j o hj ho _ _ _ _ h7⟩
theorem LeA.nils {sz : Nat} {g : Nat → Nat → AV} : LeA .nils (.sl 0 sz g) := by
 intro own w σ v h
 simp only [Rep] at h ⊢
 exact ⟨none, 0, h, Nat.le_refl _, .inl trivial⟩
def LeL : List AV → List AV → Prop
 | [], [] => True
 | a :: l, b :: m => LeA a b ∧ LeL l m
 | _, _ => False
theorem LeL.rep {own : Nat → Prop} {w : World} {σ : List SE} : ∀ {l m : List AV} {vs : List Value}, LeL l m → RepL own w l σ vs → RepL own w m σ vs
 | [], [], vs, _, h => h
 | a :: l, b :: m, vs, hl, h => by
  simp only [RepL] at h ⊢
  obtain ⟨v, r, rfl, h1, h2⟩ := h
  exact ⟨v, r, rfl, hl.1 _ _ _ _ h1, LeL.rep hl.2 h2⟩
 | [], _ :: _, _, hl, _ => hl.elim
 | _ :: _, [], _, hl, _ => hl.elim
theorem LeL.refl : ∀ l : List AV, LeL l l
 | [] => trivial
 | a :: l => ⟨LeA.refl a, LeL.refl l⟩
theorem LeA.agg {l m : List AV} (h : LeL l m) : LeA (.agg l) (.agg m) := by
 intro own w σ v hr
 simp only [Rep] at hr ⊢
 obtain ⟨vs, hv, hr⟩ := hr
 exact ⟨vs, hv, h.rep hr⟩
def eqG (n sz : Nat) (g g' : Nat → Nat → AV) : Prop := ∀ j o, j < n → o < sz → g j o = g' j o
def eqA0 : AV → AV → Prop
 | _, .undef => True
 | .int k n, .int k' n' => k = k' ∧ n = n'
 | .bool b, .bool b' => b = b'
 | .str s, .str s' => s = s'
 | .nils, .nils => True
 | .nils, .sl n _ _ => n = 0
 | .sl n sz g, .sl n' sz' g' => n = n' ∧ sz = sz' ∧ eqG n sz g g'
 | .osl i sz off n, .osl i' sz' off' n' => i = i' ∧ sz = sz' ∧ off = off' ∧ n = n'
 | .ptr i off, .ptr i' off' => i = i' ∧ off = off'
 | a, b => a = b
def eqL0 : List AV → List AV → Prop
 | [], [] => True
 | a :: l, b :: m => eqA0 a b ∧ eqL0 l m
 | _, _ => False
def eqA : AV → AV → Prop
 | .agg l, .agg m => eqL0 l m
 | .tup l, .tup m => eqL0 l m
 | a, b => eqA0 a b
def eqL : List AV → List AV → Prop
 | [], [] => True
 | _ :: l, .undef :: m => eqL l m
 | a :: l, b :: m => eqA a b ∧ eqL l m
 | _, _ => False
theorem Ze {a b : AV} (h : eqA0 a b) : LeA a b := by
 unfold eqA0 at h
 split at h
 ·exact LeA.undef _
 ·obtain ⟨rfl, rfl⟩ := h; exact LeA.refl _
 ·subst h; exact LeA.refl _
 ·subst h; exact LeA.refl _
 ·exact LeA.refl _
 ·subst h; exact LeA.nils
 ·obtain ⟨rfl, rfl, hg⟩ := h
  exact LeA.sl rfl fun j o hj ho => by rw [hg j o hj ho]; exact LeA.refl _
 ·obtain ⟨rfl, rfl, rfl, rfl⟩ := h; exact LeA.refl _
 ·obtain ⟨rfl, rfl⟩ := h; exact LeA.refl _
 ·subst h; exact LeA.refl _
theorem kQ : ∀ {l m : List AV}, eqL0 l m → LeL l m
 | [], [], _ => trivial
 | a :: l, b :: m, h => ⟨Ze h.1, kQ h.2⟩
 | [], _ :: _, h => h.elim
 | _ :: _, [], h => h.elim
theorem xO {a b : AV} (h : eqA a b) : LeA a b := by
 unfold eqA at h
 split at h
 ·exact LeA.agg (kQ h)
 ·intro own w σ v hr
  simp only [Rep] at hr ⊢
  obtain ⟨vs, hv, hr⟩ := hr
  exact ⟨vs, hv, (kQ h).rep hr⟩
 ·exact Ze h
theorem qX : ∀ {l m : List AV}, eqL l m → LeL l m
 | [], [], _ => trivial
 | [], _ :: _, h => h.elim
 | _ :: _, [], h => h.elim
 | a :: l, b :: m, h => by
  unfold eqL at h
  split at h
  ·rename_i h1 h2; cases h1
  ·rename_i h1 h2; cases h1; cases h2
   exact ⟨LeA.undef _, qX h⟩
  ·rename_i h1 h2; cases h1; cases h2
   exact ⟨xO h.1, qX h.2⟩
  ·exact h.elim
def eqB : Blk → Blk → Prop
 | _, .dead => True
 | .box l, .box m => eqL l m
 | .arr n sz g, .arr n' sz' g' => n = n' ∧ sz = sz' ∧ eqG n sz g g'
 | _, _ => False
def eqH : Heap → Heap → Prop
 | _, [] => True
 | b :: l, c :: m => eqB b c ∧ eqH l m
 | [], _ :: _ => False
def qL : AV → Bool
 | .opt _ _ _ => false
 | _ => true
def lowA (m : Nat) : AV → Bool
 | .osl i _ _ _ => decide (i < m)
 | .ptr i _ => decide (i < m)
 | .eptr i _ _ _ => decide (i < m)
 | .agg _ => false
 | .tup _ => false
 | .fn _ [] [] => true
 | .fn _ _ _ => false
 | .opt _ _ _ => false
 | _ => true
def lowB (m : Nat) : AV → Bool
 | .agg l => l.all (lowA m)
 | .tup l => l.all (lowA m)
 | .fn _ a b => a.all (lowA m) && b.all (lowA m)
 | a => lowA m a
def Q2 (m : Nat) : Blk → Bool
 | .box l => l.all (lowB m)
 | _ => true
def chk (st st' : St) : Bool := st.tmps.all qL && st'.tmps.all (lowB st'.heap.length) && decide (st'.heap.length ≤ st.heap.length) && st'.heap.all (Q2 st'.heap.length)
theorem vW {m k : Nat} {a : AV} (h : lowA m a = true) : NoH (List.range' m k) a := by
 have hr : ∀ i, i < m → i ∉ List.range' m k := fun i hi hm => by
  rw [List.mem_range'] at hm
  obtain ⟨j, _, h2⟩ := hm
  omega
 cases a with
 | osl i sz off n => simp only [lowA, decide_eq_true_eq] at h; simp only [NoH]; exact hr i h
 | ptr i off => simp only [lowA, decide_eq_true_eq] at h; simp only [NoH]; exact hr i h
 | eptr i sz idx off => simp only [lowA, decide_eq_true_eq] at h; simp only [NoH]; exact hr i h
 | agg l => simp [lowA] at h
 | tup l => simp [lowA] at h
 | fn f x y =>
  cases x <;> cases y <;> simp [lowA] at h
  simp [NoH, NoHL]
 | opt _ _ _ => simp [lowA] at h
 | _ => simp [NoH]
theorem Zc {m k : Nat} {a : AV} (h : lowB m a = true) : NoH (List.range' m k) a := by
 cases a with
 | agg l => simp only [lowB, List.all_eq_true] at h; simp only [NoH]; exact qq.2 fun x hx => vW (h x hx)
 | tup l => simp only [lowB, List.all_eq_true] at h; simp only [NoH]; exact qq.2 fun x hx => vW (h x hx)
 | fn f x y =>
  simp only [lowB, Bool.and_eq_true, List.all_eq_true] at h; simp only [NoH]
  exact ⟨qq.2 fun x hx => vW (h.1 x hx), qq.2 fun x hx => vW (h.2 x hx)⟩
 | _ => exact vW (by simpa only [lowB] using h)
theorem kX {m : Nat} {a : AV} (h : lowB m a = true) : ∀ t b y, a ≠ .opt t b y := by
 rintro t b y rfl
 simp [lowB, lowA] at h
structure Le (pin : Nat) (st st' : St) : Prop where
 tmps : eqL st.tmps st'.tmps
 heap : eqH st.heap st'.heap
 ok : chk st st' = true
 pinned : pin ≤ st'.heap.length
theorem QF : ∀ {l m : List AV}, eqL l m → l.length = m.length
 | [], [], _ => rfl
 | [], _ :: _, h => h.elim
 | _ :: _, [], h => h.elim
 | a :: l, b :: m, h => by
  unfold eqL at h
  split at h
  ·rename_i h1 h2; cases h1
  ·rename_i h1 h2; cases h1; cases h2
   simp [QF h]
  ·rename_i h1 h2; cases h1; cases h2
   simp [QF h.2]
  ·exact h.elim
theorem LeL.get : ∀ {l m : List AV} (t : Nat) (h1 : t < l.length) (h2 : t < m.length), LeL l m → LeA l[t] m[t]
 | a :: l, b :: m, 0, _, _, h => h.1
 | a :: l, b :: m, t + 1, h1, h2, h => LeL.get t (by simpa using h1) (by simpa using h2) h.2
theorem yG : ∀ {l m : Heap} {i : Nat} {b b' : Blk}, eqH l m → l[i]? = some b → m[i]? = some b' → eqB b b'
 | b :: l, c :: m, 0, _, _, h, h1, h2 => by simp at h1 h2; subst h1; subst h2; exact h.1
 | b :: l, c :: m, i + 1, _, _, h, h1, h2 => yG h.2 (by simpa using h1) (by simpa using h2)
 | _, [], _, _, _, _, _, h2 => by simp at h2
 | [], _ :: _, _, _, _, h, _, _ => h.elim
section
variable {O : Nat → Prop} {pin : Nat} {w0 : World} {σ0 : List SE} {w : World} {σ : List SE} {P : Program} {st st' : St} {a : Act} {Γ : Nat → Option Ctr}
theorem Yj {m b : Nat} (h : Own O (σ.take m) b) : Own O σ b := by
 rcases h with h | ⟨e, he, ad, h1, h2⟩
 ·exact .inl h
 ·exact .inr ⟨e, List.mem_of_mem_take he, ad, h1, h2⟩
theorem Le.mod (h : Le pin st st') (hm : Mod O pin w0 σ0 w σ st a) : Mod O pin w0 σ0 w (σ.take st'.heap.length) st' a := by
 have hok := h.ok
 simp only [chk, Bool.and_eq_true, decide_eq_true_eq, List.all_eq_true] at hok
 obtain ⟨⟨⟨hno, hlow⟩, hle⟩, hlowH⟩ := hok
 generalize hmm : st'.heap.length = m at hle hlow hlowH
 have hx : Ext (Own O σ) w (Own O (σ.take m)) w := ⟨rfl, rfl, rfl, Nat.le_refl _, fun _ _ _ => rfl, fun b hb => .inl (Yj hb)⟩
 have hlen := hm.hp.len
 have htl := QF h.tmps
 have hhold : Hold (List.range' m (st.heap.length - m)) w σ w (σ.take m) := by
  intro i e he hi
  have hlt := (List.getElem?_eq_some_iff.1 he).1
  have him : i < m := by
   rw [List.mem_range'] at hi
   rcases Nat.lt_or_ge i m with h1 | h1
   ·exact h1
   ·exact absurd ⟨i - m, by omega, by omega⟩ hi
  exact ⟨by rw [List.getElem?_take, if_pos him]; exact he, fun ad _ cs el hcs => ⟨cs, el, hcs, rfl⟩⟩
 have hget : ∀ (i : Nat) (e : SE), (σ.take m)[i]? = some e → i < m ∧ σ[i]? = some e := by
  intro i e he
  rw [List.getElem?_take] at he
  split at he
  ·rename_i hi; exact ⟨hi, he⟩
  ·cases he
 refine ⟨⟨hm.good.old, fun i e ad he => hm.good.dis i e ad (hget i e he).2, hm.good.stat.ext hx⟩, ⟨?_, ?_, ?_, ?_⟩, by rw [hm.size, htl], fun t => ?_, hm.df.ext hx, hm.since.trans ⟨hx, fun _ _ _ => rfl, wR.of hhold (fun i hi => by
  rw [List.mem_range'] at hi
  obtain ⟨j, _, h2⟩ := hi
  have := h.pinned
  omega)⟩, hm.lim⟩
 ·rw [List.length_take, hmm, hlen]; exact Nat.min_eq_left hle
 ·intro i j e f x y he hf
  exact hm.hp.inj i j e f x y (hget i e he).2 (hget j f hf).2
 ·intro i e x he
  exact hm.hp.lt i e x (hget i e he).2
 ·intro i e b' he hb'
  obtain ⟨hi, he⟩ := hget i e he
  have hil : i < st.heap.length := Nat.lt_of_lt_of_le hi hle
  have hle' := yG h.heap (List.getElem?_eq_getElem hil) hb'
  have hbr := hm.hp.blk i e _ he (List.getElem?_eq_getElem hil)
  generalize st.heap[i] = b at hle' hbr
  cases b' with
  | dead => trivial
  | box mcs =>
   cases b with
   | box lcs =>
    simp only [eqB] at hle'
    simp only [BRep] at hbr ⊢
    obtain ⟨ad, vs, el, h1, h2, h3, h4⟩ := hbr
    have := hlowH _ (List.mem_of_getElem? hb')
    simp only [Q2, List.all_eq_true] at this
    exact ⟨ad, vs, el, h1, h2, h3, qu hx hhold _ _ (qq.2 fun x hx => Zc (this x hx)) ((qX hle').rep h4)⟩
   | _ => exact hle'.elim
  | arr n' sz' g' =>
   cases b with
   | arr n sz g =>
    simp only [eqB] at hle'
    obtain ⟨rfl, rfl, hle'⟩ := hle'
    simp only [BRep] at hbr ⊢
    obtain ⟨h1, h2 | ⟨ad, cs, el, h3, h4, h5, h6⟩⟩ := hbr
    ·exact ⟨h1, .inl h2⟩
    ·refine ⟨h1, .inr ⟨ad, cs, el, h3, h4, h5, fun j o hj ho => ?_⟩⟩
     obtain ⟨c, h7, h8, h9⟩ := h6 j o hj ho
     exact ⟨c, h7, h8, zu hx _ _ (hle' j o hj ho ▸ h9)⟩
   | _ => exact hle'.elim
 ·have ht := hm.tm t
  by_cases htl1 : t < st.tmps.length
  ·have htl' : t < st'.tmps.length := by rw [← htl]; exact htl1
   have hno1 := hno st.tmps[t] (List.getElem_mem htl1)
   have hl1 := hlow st'.tmps[t] (List.getElem_mem htl')
   have hla := LeL.get t htl1 htl' (qX h.tmps)
   have e1 : st.tmps.getD t .undef = st.tmps[t] := by simp [List.getD, htl1]
   have e2 : st'.tmps.getD t .undef = st'.tmps[t] := by simp [List.getD, htl']
   rw [e1] at ht
   rw [e2]
   generalize st.tmps[t] = x at ht hno1 hla
   generalize st'.tmps[t] = y at hl1 hla
   have hr : Rep (Own O σ) w x σ (a.tmps.getD t Go.undef) := by
    cases x with
    | opt t b y => simp [qL] at hno1
    | _ => simpa only [TRep] using ht
   have hr2 := q6 hx hhold y _ (Zc hl1) (hla _ _ _ _ hr)
   cases y with
   | opt t b z => exact absurd rfl (kX hl1 t b z)
   | _ => simpa only [TRep] using hr2
  ·have e2 : st'.tmps.getD t .undef = .undef := by
    simp only [List.getD]
    rw [List.getElem?_eq_none (by omega)]; rfl
   rw [e2]
   simp [TRep, Rep]
def Safe (M : Option Nat) (P : Program) (O : Nat → Prop) (pin : Nat) (w0 : World) (σ0 : List SE) (Hs : Nat → St → Prop) (R : St → Prop) (k : List Item) (st : St) : Prop :=
 ∀ w σ a, Mod O pin w0 σ0 w σ st a → wpK M P (fun d a w => ∃ st σ, Hs d st ∧ Mod O pin w0 σ0 w σ st a) (fun e a w => (e = .ret ∨ e = .normal) ∧ ∃ st σ, R st ∧ Mod O pin w0 σ0 w σ st a) k .normal a w
def zen (M : Option Nat) (P : Program) (O : Nat → Prop) (pin : Nat) (w0 : World) (σ0 : List SE) (Hs : Nat → St → Prop) (R : St → Prop) : Leaf → Prop
 | .ret st => R st
 | .back d st => Hs d st
 | .loop c k st => Safe M P O pin w0 σ0 Hs R (.code (.loop c) :: k) st
 | .range c k st => Safe M P O pin w0 σ0 Hs R (.code c :: k) st
theorem Safe.run {M : Option Nat} {Hs : Nat → St → Prop} {R : St → Prop} {k : List Item} (hmix : P.follows .mixedOrders = true) (hΓ : ∀ g c, Γ g = some c → zb P g c) (n : Nat) (h : (Go.Sx.run P Γ pin n k st).holds (zen M P O pin w0 σ0 Hs R)) : Safe M P O pin w0 σ0 Hs R k st := by
 intro w σ a hm
 refine qn hmix hΓ n (Tree.zV ?_ h) hm
 intro lf hl
 cases lf with
 | ret st => exact fun w σ a hm => ⟨⟨.inl rfl, st, σ, hl, hm⟩, ⟨.inr rfl, st, σ, hl, hm⟩⟩
 | back d st => exact fun w σ a hm => ⟨st, σ, hl, hm⟩
 | loop c k st => exact fun w σ a hm => hl w σ a hm
 | range c k st => exact fun w σ a hm => hl w σ a hm
theorem Safe.le {M : Option Nat} {Hs : Nat → St → Prop} {R : St → Prop} {k : List Item} (hle : Le pin st st') (h : Safe M P O pin w0 σ0 Hs R k st') : Safe M P O pin w0 σ0 Hs R k st :=
 fun w σ a hm => h w _ a (hle.mod hm)
theorem wp_loop_ghost {M : Option Nat} {c : Code} {Q : Exit → Act → World → Prop} {ι : Type} (I : ι → Act → World → Prop) (μ : ι → Nat) (x0 : ι) (h0 : I x0 a w)
  (round : ∀ x a w, I x a w → c.wpIn (FM M) 0 P (Exit.then (fun a' w' => ∃ x', I x' a' w' ∧ μ x' < μ x) Q) a w) : (Code.loop c).wpIn (FM M) 0 P Q a w := by
 classical
 have least : ∀ (p : Nat → Prop), (∃ n, p n) → ∃ n, p n ∧ ∀ m, p m → n ≤ m := by
  rintro p ⟨n, hn⟩
  induction n using Nat.strongRecOn with
  | _ n ih =>
   by_cases h : ∃ m, m < n ∧ p m
   ·obtain ⟨m, h1, h2⟩ := h; exact ih m h1 h2
   ·exact ⟨n, hn, fun m hm => Nat.le_of_not_lt fun hlt => h ⟨m, hlt, hm⟩⟩
 have hl : ∀ a w, ∃ n, (∃ x, I x a w) → (∃ x, I x a w ∧ μ x = n) ∧ ∀ x, I x a w → n ≤ μ x := by
  intro a w
  by_cases h : ∃ x, I x a w
  ·obtain ⟨n, ⟨x, h1, h2⟩, h3⟩ := least (fun n => ∃ x, I x a w ∧ μ x = n) (by obtain ⟨x, hx⟩ := h; exact ⟨_, x, hx, rfl⟩)
   exact ⟨n, fun _ => ⟨⟨x, h1, h2⟩, fun y hy => h3 _ ⟨y, hy, rfl⟩⟩⟩
  ·exact ⟨0, fun h' => absurd h' h⟩
 refine wpIn_loop (fun a w => ∃ x, I x a w) (fun a w => (hl a w).choose) ⟨x0, h0⟩ ?_
 intro a w hI
 obtain ⟨⟨x, h1, h2⟩, h3⟩ := (hl a w).choose_spec hI
 refine wpIn_mono (round x a w h1) fun e a' w' h => ?_
 cases e with
 | normal =>
  obtain ⟨x', h4, h5⟩ := h
  have h6 := ((hl a' w').choose_spec ⟨x', h4⟩).2 x' h4
  exact ⟨⟨x', h4⟩, by omega⟩
 | _ => exact h
theorem jl {M : Option Nat} {H H' : Nat → Act → World → Prop} {B : Exit → Act → World → Prop} : ∀ {k : List Item} {e : Exit} {a : Act} {w : World}, (∀ d a w, d < wa k → H' d a w → H d a w) → wpK M P H' B k e a w → wpK M P H B k e a w
 | [], e, a, w, hh, h => h
 | .code c :: k, e, a, w, hh, h => by
  cases e with
  | normal => exact wpIn_mono h fun e a w h => jl hh h
  | _ => exact jl (k := k) hh h
 | .inBlock id :: k, e, a, w, hh, h => by
  cases e with
  | exit i =>
   simp only [wpK] at h ⊢
   split at h
   ·rename_i hi; rw [if_pos hi]; exact jl hh h
   ·rename_i hi; rw [if_neg hi]; exact jl hh h
  | _ => exact jl (k := k) hh h
 | .inLoop :: k, e, a, w, hh, h => by
  cases e with
  | normal => exact hh _ _ _ (by simp [wa]) h
  | _ => exact jl (k := k) (fun d a w hd => hh d a w (by simp [wa]; omega)) h
theorem Safe.loop {M : Option Nat} {ι : Type} {Hs : Nat → St → Prop} {R : St → Prop} {k : List Item} {c : Code} (S : ι → St) (μ : ι → Nat) (x0 : ι) (hle : Le pin st (S x0))
  (round : ∀ x, Safe M P O pin w0 σ0 (fun d st' => if d = wa k then ∃ x', μ x' < μ x ∧ Le pin st' (S x') else Hs d st') R (.code c :: .inLoop :: k) (S x)) :
  Safe M P O pin w0 σ0 Hs R (.code (.loop c) :: k) st := by
 intro w σ a hm
 simp only [wpK]
 refine wp_loop_ghost (fun x a w => ∃ σ, Mod O pin w0 σ0 w σ (S x) a) μ x0 ⟨_, hle.mod hm⟩ ?_
 rintro x a w ⟨σ, hm⟩
 have := round x w σ a hm
 simp only [wpK] at this
 refine wpIn_mono this fun e a w h => ?_
 cases e with
 | normal =>
  simp only [wpK] at h
  obtain ⟨st', σ', h1, h2⟩ := h
  simp only [if_true] at h1
  obtain ⟨x', h3, h4⟩ := h1
  exact ⟨x', ⟨_, h4.mod h2⟩, h3⟩
 | _ =>
  refine jl (k := k) (fun d a w hd h => ?_) h
  obtain ⟨st', σ', h1, h2⟩ := h
  rw [if_neg (by omega)] at h1
  exact ⟨st', σ', h1, h2⟩
def jX (st : St) (t : Nat) (sz : Nat) (g : Nat → Nat → AV) : St := ⟨st.tmps.set t (.osl st.heap.length sz 0 0), st.heap ++ [.arr 0 sz g]⟩
theorem Up (hm : Mod O pin w0 σ0 w σ st a) {t sz : Nat} {g : Nat → Nat → AV} (ht : st.tmps.getD t .undef = .nils) (hno : st.tmps.all qL = true) : Mod O pin w0 σ0 w (σ ++ [⟨none, 0⟩]) (jX st t sz g) a := by
 obtain ⟨k1, k2, k3⟩ := UT hm.good hm.hp sz g
 have hx := ext_nil (O := O) w σ 0
 refine ⟨k2, k1, by simp [jX, hm.size], fun u => ?_, hm.df.ext hx, hm.since.trans ⟨hx, fun _ _ _ => rfl, wR.of k3 (by simp)⟩, hm.lim⟩
 have hu := hm.tm u
 by_cases htu : u = t
 ·subst htu
  rw [ht] at hu
  simp only [TRep, Rep] at hu
  have hlt : u < st.tmps.length := by
   rcases Nat.lt_or_ge u st.tmps.length with h | h
   ·exact h
   ·simp [List.getD, List.getElem?_eq_none h] at ht
  have : (jX st u sz g).tmps.getD u .undef = .osl st.heap.length sz 0 0 := by
   simp only [jX, List.getD]
   rw [List.getElem?_set_self hlt]; rfl
  rw [this, hu]
  simp only [TRep, Rep]
  exact ⟨⟨none, 0⟩, by rw [← hm.hp.len]; simp, by simp, none, 0, rfl, Nat.le_refl _, .inl rfl⟩
 ·have : (jX st t sz g).tmps.getD u .undef = st.tmps.getD u .undef := by
   simp only [jX, List.getD]
   rw [List.getElem?_set_ne (fun h => htu h.symm)]
  rw [this]
  have hn : qL (st.tmps.getD u .undef) = true := by
   by_cases hlt : u < st.tmps.length
   ·simp only [List.getD, List.getElem?_eq_getElem hlt, Option.getD_some]
    exact List.all_eq_true.1 hno _ (List.getElem_mem hlt)
   ·simp only [List.getD]
    rw [List.getElem?_eq_none (by omega)]; rfl
  generalize st.tmps.getD u .undef = x at hu hn
  cases x with
  | opt _ _ _ => simp [qL] at hn
  | _ => simp only [TRep] at hu ⊢; exact q6 hx k3 _ _ (jG _) hu
theorem Safe.bear {M : Option Nat} {Hs : Nat → St → Prop} {R : St → Prop} {k : List Item} (t sz : Nat) (g : Nat → Nat → AV) (ht : st.tmps.getD t .undef = .nils) (hno : st.tmps.all qL = true) (h : Safe M P O pin w0 σ0 Hs R k (jX st t sz g)) : Safe M P O pin w0 σ0 Hs R k st :=
 fun w σ a hm => h w _ a (Up hm ht hno)
def resX (P : Program) (st : St) : List ResultVar → Tree (List AV)
 | [] => .leaf []
 | .tmp t :: l => (resX P st l).bind fun r => .leaf (see [] (st.tmps.getD t .undef) :: r)
 | .cell t ty :: l => (y5 P st.heap ty (see [] (st.tmps.getD t .undef))).bind fun v => (resX P st l).bind fun r => .leaf (v :: r)
def resV (rs : List AV) : AV := match rs with
 | [r] => r
 | rs => .tup rs
def Qv (tmps : Array Value) : ResultVar → Sem Value
 | .tmp t => pure (tmps.getD t Go.undef)
 | .cell x t => do loadVar t (← asAddr (tmps.getD x Go.undef))
theorem Vw (fn : Func) (tmps : Array Value) : results fn tmps = (do let vs ← fn.results.mapM (Qv tmps); pure (if h : vs.size = 1 then vs[0] else .tuple vs)) := by
 unfold results
 congr 1
theorem ym (hm : Mod O pin w0 σ0 w σ st a) : ∀ {l : List ResultVar} {Q : List AV → Prop}, (resX P st l).holds Q →
  ∃ rs vs, (l.mapM (Qv a.tmps)).run P w = .ok vs w ∧ Q rs ∧ RepL (Own O σ) w rs σ vs
 | [], Q, hq => ⟨[], [], by simp, hq, by simp [RepL]⟩
 | .tmp t :: l, Q, hq => by
  simp only [resX, Tree.zi] at hq
  obtain ⟨rs, vs, h1, h2, h3⟩ := ym hm hq
  refine ⟨_, a.tmps.getD t Go.undef :: vs, ?_, h2, ?_⟩
  ·simp only [List.mapM_cons, Qv, Sem.run_bind, Sem.run_pure, Result.andThen_ok]
   rw [h1]; rfl
  ·simp only [RepL]
   exact ⟨_, _, rfl, (hm.tm t).rep, h3⟩
 | .cell x t :: l, Q, hq => by
  simp only [resX, Tree.zi] at hq
  have hx := (hm.tm x).rep
  obtain ⟨r, v, h1, hq, hr⟩ := yQ (P := P) hm.hp hx hq
  obtain ⟨rs, vs, h4, h2, h3⟩ := ym hm hq
  refine ⟨_, v :: vs, ?_, h2, ?_⟩
  ·simp only [List.mapM_cons, Sem.run_bind, Qv]
   have : (do loadVar t (← asAddr (a.tmps.getD x Go.undef)) : Sem Value).run P w = .ok v w := by
    simp only [Instr.loadAt, Sem.run_bind] at h1 ⊢
    generalize a.tmps.getD x Go.undef = va at h1
    cases va with
    | pointer p =>
     cases p with
     | none => simp [Instr.sureAddr] at h1
     | some ad => simpa [Instr.sureAddr, asAddr] using h1
    | _ => simp [Instr.sureAddr] at h1
   simp only [Sem.run_bind] at this
   rw [this]
   simp only [Result.andThen_ok]
   rw [h4]; rfl
  ·simp only [RepL]
   exact ⟨_, _, rfl, hr, h3⟩
def zK : AV → Bool
 | .bool _ => true
 | .int _ _ => true
 | .str _ => true
 | .nils => true
 | .nilp => true
 | .fn _ [] [] => true
 | .nilf => true
 | _ => false
theorem kg {own own' : Nat → Prop} {w' : World} {σ' : List SE} {x : AV} {v : Value} (h : zK x = true) (hr : Rep own w x σ v) : Rep own' w' x σ' v := by
 cases x with
 | fn f p q =>
  cases p <;> cases q <;> simp [zK] at h
  simp only [Rep, RepL] at hr ⊢; exact hr
 | bool _ => simpa only [Rep] using hr
 | int _ _ => simpa only [Rep] using hr
 | str _ => simpa only [Rep] using hr
 | nils => simpa only [Rep] using hr
 | nilp => simpa only [Rep] using hr
 | nilf => simpa only [Rep] using hr
 | _ => simp [zK] at h
def x6 : AV → Bool
 | .agg l => l.all zK
 | .tup l => l.all zK
 | a => zK a
def kW (fn : Func) (args : List AV) (hc : Heap) : St := ⟨args.map (see []) ++ List.replicate (fn.ntmps - args.length) .undef, hc⟩
def entry (fn : Func) (args : List AV) : St := kW fn args []
theorem Zp {fn : Func} (hm : Mod O pin w0 σ0 w σ st a) {Q : List AV → Prop} (hq : (resX P st fn.results.toList).holds Q) : ∃ rs v, (results fn a.tmps).run P w = .ok v w ∧ Q rs ∧ Rep (Own O σ) w (resV rs) σ v := by
 obtain ⟨rs, vs, h1, h2, h3⟩ := ym hm hq
 have hr : (results fn a.tmps).run P w = .ok (if h : vs.toArray.size = 1 then vs.toArray[0] else .tuple vs.toArray) w := by
  rw [Vw]
  obtain ⟨l, hl⟩ : ∃ l : List ResultVar, fn.results = l.toArray := ⟨fn.results.toList, by simp⟩
  rw [hl] at h1 ⊢
  simp only [Sem.run_bind, List.mapM_toArray, Sem.run_map]
  rw [h1]
  rfl
 refine ⟨rs, _, hr, h2, ?_⟩
 match rs, vs, h3 with
 | [r], vs, h3 =>
  simp only [RepL] at h3
  obtain ⟨v, _, rfl, h4, rfl⟩ := h3
  exact h4
 | [], vs, h3 =>
  simp only [RepL] at h3
  subst h3
  simp only [resV, Rep]
  exact ⟨[], by simp, by simp [RepL]⟩
 | r1 :: r2 :: rs, vs, h3 =>
  have := h3.length
  rw [dif_neg (by simp at this ⊢; omega)]
  simp only [resV, Rep]
  exact ⟨vs, rfl, h3⟩
theorem KP {fn : Func} {args : List AV} {hc : Heap} {vals : List Value} (hg : Good O w σ) (hh : HRep (Own O σ) w σ hc) (hr : RepL (Own O σ) w args σ vals) : Mod O pin w σ w σ (kW fn args hc) ⟨vals.toArray ++ Array.replicate (fn.ntmps - vals.toArray.size) Go.undef, []⟩ := by
 have hl := hr.length
 refine ⟨hg, hh, by simp [kW, hl], fun t => ?_, Marks.nil _ _ _, Stp.refl _ _ _ _, hg.stat⟩
 simp only [kW]
 by_cases ht : t < args.length
 ·have e1 : (args.map (see []) ++ List.replicate (fn.ntmps - args.length) AV.undef).getD t .undef = see [] args[t] := by
   simp only [List.getD]
   rw [List.getElem?_append_left (by simpa using ht)]
   simp [ht]
  have e2 : (vals.toArray ++ Array.replicate (fn.ntmps - vals.toArray.size) Go.undef).getD t Go.undef = vals[t]'(by omega) := by
   simp only [Array.getD_eq_getD_getElem?]
   rw [Array.getElem?_append_left (by simp; omega)]
   simp [show t < vals.length by omega]
  rw [e1, e2]
  have := (zq.1 hr).2 t args[t] (vals[t]'(by omega)) (by simp [ht]) (by simp [show t < vals.length by omega])
  generalize args[t] = x at this
  cases x with
  | opt _ _ _ => simp [see, TRep, Rep]
  | _ => simpa only [see, TRep] using this
 ·have e1 : (args.map (see []) ++ List.replicate (fn.ntmps - args.length) AV.undef).getD t .undef = .undef := by
   simp only [List.getD]
   rw [List.getElem?_append_right (by simp; omega)]
   simp only [List.getElem?_replicate]
   split <;> rfl
  rw [e1]
  simp [TRep, Rep]
def exp0 (h : Heap) (M : List Nat) : AV → AV
 | .osl i sz off n => match z5 M i with
  | some j => .osl j sz off n
  | none => match frz1 h (.osl i sz off n) with
   | some (a, _) => a
   | none => .undef
 | x => ren0 (z5 M) x
def exp1 (h : Heap) (M : List Nat) : AV → AV
 | .agg cs => .agg (cs.map (exp0 h M))
 | .tup cs => .tup (cs.map (exp0 h M))
 | .fn g a b => .fn g (a.map (exp0 h M)) (b.map (exp0 h M))
 | x => exp0 h M x
def exp2 (h : Heap) (M : List Nat) : AV → AV
 | .tup cs => .tup (cs.map (exp1 h M))
 | .fn g a b => .fn g (a.map (exp1 h M)) (b.map (exp1 h M))
 | x => exp1 h M x
def expB (h : Heap) (M : List Nat) : Blk → Blk
 | .box cs => .box (cs.map (exp1 h M))
 | b => b
def expH (h : Heap) (M : List Nat) : Heap := M.map fun i => expB h M (h.getD i .dead)
def zcf : AV → Prop
 | .sl n sz g => ∀ j o, j < n → o < sz → zK (g j o) = true
 | _ => True
def new0 (h : Heap) (M : List Nat) : AV → Prop
 | .osl i sz off n => z5 M i = none → zcf (exp0 h M (.osl i sz off n))
 | .sl n _ _ => n = 0
 | a => zK a = true
def new1 (h : Heap) (M : List Nat) : AV → Prop
 | .agg cs => ∀ a ∈ cs, new0 h M a
 | .tup cs => ∀ a ∈ cs, new0 h M a
 | a => new0 h M a
def new2 (h : Heap) (M : List Nat) : AV → Prop
 | .tup cs => ∀ a ∈ cs, new1 h M a
 | a => new1 h M a
def newB : Blk → Prop
 | .arr n sz g => zcf (.sl n sz g)
 | .dead => True
 | .box _ => False
theorem jL {own own' : Nat → Prop} {w w' : World} {σ1 σ2 : List SE} {f : AV → AV} {l : List AV} {vs : List Value} (hf : ∀ a ∈ l, ∀ v, Rep own w a σ1 v → Rep own' w' (f a) σ2 v) (h : RepL own w l σ1 vs) : RepL own' w' (l.map f) σ2 vs := by
 refine zq.2 ⟨by simp [h.length], fun i x u hx hu => ?_⟩
 simp only [List.getElem?_map] at hx
 cases hl : l[i]? with
 | none => simp [hl] at hx
 | some y =>
  simp only [hl, Option.map_some, Option.some.injEq] at hx
  subst hx
  exact hf y (List.mem_of_getElem? hl) u ((zq.1 h).2 i y u hl hu)
structure Exp (O : Nat → Prop) (w : World) (σ : List SE) (h : Heap) (M : List Nat) (σM : List SE) (own' : Nat → Prop) : Prop where
 good : Good O w σ
 hp : HRep (Own O σ) w σ h
 nd : wG M = true
 lt : ∀ i ∈ M, i < h.length
 get : ∀ j : Nat, σM[j]? = (M[j]?).bind fun i => σ[i]?
 own : ∀ b, own' b → Own O σM b ∨ ¬ Mine σ b
section
variable {h : Heap} {M : List Nat} {σM : List SE} {own' : Nat → Prop}
theorem Exp.get' (x : Exp O w σ h M σM own') {j : Nat} {e : SE} (he : σM[j]? = some e) : ∃ i, M[j]? = some i ∧ σ[i]? = some e := by
 rw [x.get] at he
 cases hj : M[j]? with
 | none => simp [hj] at he
 | some i => simp only [hj, Option.bind_some] at he; exact ⟨i, rfl, he⟩
theorem Exp.pos (x : Exp O w σ h M σM own') (i j : Nat) (hp : z5 M i = some j) : σM[j]? = σ[i]? := by
 rw [x.get, vL hp]; rfl
theorem Exp.sub (x : Exp O w σ h M σM own') {b : Nat} (hb : Own O σM b) : Own O σ b := by
 rcases hb with hb | hb
 ·exact .inl hb
 ·obtain ⟨j, e, ad, h1, h2, h3⟩ := zy.1 hb
  obtain ⟨i, _, hi⟩ := x.get' h1
  exact .inr (zy.2 ⟨i, e, ad, hi, h2, h3⟩)
theorem Exp.out (x : Exp O w σ h M σM own') {i : Nat} {e : SE} {ad : Addr} (hi : i ∉ M) (he : σ[i]? = some e) (had : e.ad = some ad) : ¬ own' ad.block := by
 intro hb
 rcases x.own _ hb with hb | hb
 ·rcases hb with hb | hb
  ·exact x.good.dis i e ad he had hb
  ·obtain ⟨j, f, ad', h1, h2, h3⟩ := zy.1 hb
   obtain ⟨k, hk, hf⟩ := x.get' h1
   exact x.hp.inj k i f e ad' ad hf he h2 had (fun e => hi (e ▸ List.mem_of_getElem? hk)) h3
 ·exact hb (zy.2 ⟨i, e, ad, he, had, rfl⟩)
theorem wF (x : Exp O w σ h M σM own') {a : AV} {v : Value} (hs : (∀ b, own' b → Own O σ b) ∨ new0 h M a) (ha : Rep (Own O σ) w a σ v) : Rep own' w (exp0 h M a) σM v := by
 have hren : ∀ a, exp0 h M a = ren0 (z5 M) a → ((∀ b, own' b → Own O σ b) ∨ zK a = true ∨ (∃ i sz off n, a = .osl i sz off n)) → Rep (Own O σ) w a σ v → Rep own' w (exp0 h M a) σM v := by
  intro a he hs ha
  rw [he]
  rcases hs with hs | hs | ⟨i, sz, off, n, rfl⟩
  ·exact vI hs (jC x.pos ha)
  ·have : ren0 (z5 M) a = a := by
    cases a with
    | fn g p q => cases p <;> cases q <;> simp [zK] at hs; rfl
    | _ => first | rfl | simp [zK] at hs
   rw [this]
   exact kg hs ha
  ·have := jC x.pos ha
   simp only [ren0] at this ⊢
   split
   ·rename_i j hj
    rw [hj] at this
    simpa only [Rep] using this
   ·simp [Rep]
 cases a with
 | osl i sz off n =>
  cases hp : z5 M i with
  | some j => exact hren _ (by simp [exp0, ren0, hp]) (.inr (.inr ⟨i, sz, off, n, rfl⟩)) ha
  | none =>
   have hiM := qT.1 hp
   have key : ∀ {a' : AV} {k : List Nat}, frz1 h (.osl i sz off n) = some (a', k) → exp0 h M (.osl i sz off n) = a' := by
    intro a' k hf
    simp only [exp0, hp, hf]
   cases hf : frz1 h (.osl i sz off n) with
   | none => simp [exp0, hp, hf, Rep]
   | some p =>
    obtain ⟨a', k⟩ := p
    rw [key hf]
    have hik : k = [i] := by
     simp only [frz1] at hf
     split at hf
     ·simp only [Option.some.injEq, Prod.mk.injEq] at hf; exact hf.2.symm
     ·cases hf
    obtain ⟨n', sz', g, rfl⟩ : ∃ n' sz' g, a' = .sl n' sz' g := by
     simp only [frz1] at hf
     split at hf
     ·simp only [Option.some.injEq, Prod.mk.injEq] at hf; exact ⟨_, _, _, hf.1.symm⟩
     ·cases hf
    have hfs := (kS (K := [i]) x.good x.hp ha hf (by simp [hik])).1
    simp only [Rep] at hfs ⊢
    obtain ⟨ba, cap, hv, hc, hr⟩ := hfs
    refine ⟨ba, cap, hv, hc, ?_⟩
    rcases hr with hr | ⟨ad, h1, h2, h3⟩
    ·exact .inl hr
    ·refine .inr ⟨ad, h1, h2, fun j o hj ho => ?_⟩
     obtain ⟨h4, c, h5, h6, h7⟩ := h3 j o hj ho
     have hblk : ¬ own' ad.block := by
      simp only [Rep] at ha
      obtain ⟨e, he, _, a2, cap2, hv2, _, hr2⟩ := ha
      rw [hv] at hv2
      simp only [Value.slice.injEq] at hv2
      obtain ⟨e1, e2, e3⟩ := hv2
      rcases hr2 with hr2 | ⟨ad2, had2, ha2, _⟩
      ·omega
      ·have : ad.block = ad2.block := by
        rw [h1, ha2] at e1
        simp only [Option.some.injEq] at e1
        rw [e1]
       rw [this]
       exact x.out hiM he had2
     refine ⟨hblk, c, h5, h6, ?_⟩
     rcases hs with hs | hs
     ·exact vI (fun b hb => by
       rcases x.own b hb with h8 | h8
       ·rcases h8 with h8 | h8
        ·exact .inl h8
        ·obtain ⟨jj, f, ad', g1, g2, g3⟩ := zy.1 h8
         obtain ⟨kk, hk, hf'⟩ := x.get' g1
         exact .inr (zy.2 ⟨kk, f, ad', by
           have hne : kk ≠ i := fun e => hiM (e ▸ List.mem_of_getElem? hk)
           rw [jP, hf']; simp [hne], g2, g3⟩)
       ·rcases hs b hb with h9 | h9
        ·exact .inl h9
        ·exact absurd h9 h8) h7
     ·have hsl := hs hp
      rw [key hf] at hsl
      exact kg (hsl j o hj ho) h7
 | sl n sz g =>
  rcases hs with hs | hs
  ·exact hren _ rfl (.inl hs) ha
  ·simp only [new0] at hs
   subst hs
   simp only [exp0, ren0, Rep] at ha ⊢
   obtain ⟨b, cap, hv, hc, _⟩ := ha
   exact ⟨b, cap, hv, hc, .inl trivial⟩
 | agg cs => simp [exp0, ren0, Rep]
 | tup cs => simp [exp0, ren0, Rep]
 | opt _ _ _ => simp [exp0, ren0, Rep]
 | undef => simp [exp0, ren0, Rep]
 | _ => exact hren _ rfl (by rcases hs with hs | hs; exact .inl hs; exact .inr (.inl hs)) ha
theorem w8 (x : Exp O w σ h M σM own') {a : AV} {v : Value} (hs : (∀ b, own' b → Own O σ b) ∨ new1 h M a) (ha : Rep (Own O σ) w a σ v) : Rep own' w (exp1 h M a) σM v := by
 cases a with
 | agg cs =>
  simp only [exp1, Rep] at ha ⊢
  obtain ⟨vs, hv, hr⟩ := ha
  exact ⟨vs, hv, jL (fun a ha v => wF x (by rcases hs with hs | hs; exact .inl hs; exact .inr (hs a ha))) hr⟩
 | tup cs =>
  simp only [exp1, Rep] at ha ⊢
  obtain ⟨vs, hv, hr⟩ := ha
  exact ⟨vs, hv, jL (fun a ha v => wF x (by rcases hs with hs | hs; exact .inl hs; exact .inr (hs a ha))) hr⟩
 | fn g p q =>
  rcases hs with hs | hs
  ·simp only [exp1, Rep] at ha ⊢
   obtain ⟨va, vb, hv, h1, h2⟩ := ha
   exact ⟨va, vb, hv, jL (fun a ha v => wF x (.inl hs)) h1, jL (fun a ha v => wF x (.inl hs)) h2⟩
  ·cases p <;> cases q <;> simp [new1, new0, zK] at hs
   simp only [exp1, Rep, RepL, List.map_nil] at ha ⊢
   exact ha
 | _ => exact wF x (by simpa only [new1] using hs) ha
theorem Vx (x : Exp O w σ h M σM own') {a : AV} {v : Value} (hs : (∀ b, own' b → Own O σ b) ∨ new2 h M a) (ha : Rep (Own O σ) w a σ v) : Rep own' w (exp2 h M a) σM v := by
 cases a with
 | tup cs =>
  simp only [exp2, Rep] at ha ⊢
  obtain ⟨vs, hv, hr⟩ := ha
  exact ⟨vs, hv, jL (fun a ha v => w8 x (by rcases hs with hs | hs; exact .inl hs; exact .inr (hs a ha))) hr⟩
 | fn g p q =>
  rcases hs with hs | hs
  ·simp only [exp2, Rep] at ha ⊢
   obtain ⟨va, vb, hv, h1, h2⟩ := ha
   exact ⟨va, vb, hv, jL (fun a ha v => w8 x (.inl hs)) h1, jL (fun a ha v => w8 x (.inl hs)) h2⟩
  ·cases p <;> cases q <;> simp [new2, new1, new0, zK] at hs
   simp only [exp2, Rep, RepL, List.map_nil] at ha ⊢
   exact ha
 | _ => exact w8 x (by simpa only [new2] using hs) ha
theorem V9 (x : Exp O w σ h M σM own') {e : SE} {b : Blk} (hs : (∀ b, own' b → Own O σ b) ∨ newB b) (hb : BRep (Own O σ) w σ e b) : BRep own' w σM e (expB h M b) := by
 cases b with
 | dead => trivial
 | box cs =>
  rcases hs with hs | hs
  ·simp only [expB, BRep] at hb ⊢
   obtain ⟨ad, vs, el, h1, h2, h3, h4⟩ := hb
   exact ⟨ad, vs, el, h1, h2, h3, jL (fun a ha v => w8 x (.inl hs)) h4⟩
  ·exact hs.elim
 | arr n sz g =>
  simp only [expB, BRep] at hb ⊢
  obtain ⟨h1, h2 | ⟨ad, cs, el, h3, h4, h5, h6⟩⟩ := hb
  ·exact ⟨h1, .inl h2⟩
  ·refine ⟨h1, .inr ⟨ad, cs, el, h3, h4, h5, fun j o hj ho => ?_⟩⟩
   obtain ⟨c, h7, h8, h9⟩ := h6 j o hj ho
   refine ⟨c, h7, h8, ?_⟩
   rcases hs with hs | hs
   ·exact vI hs h9
   ·exact kg (hs j o hj ho) h9
end
def eqL1 : List AV → List AV → Prop
 | [], [] => True
 | a :: l, b :: m => eqA a b ∧ eqL1 l m
 | _, _ => False
def eqA2 : AV → AV → Prop
 | .tup l, .tup m => eqL1 l m
 | a, b => eqA a b
theorem uF : ∀ {l m : List AV}, eqL1 l m → LeL l m
 | [], [], _ => trivial
 | a :: l, b :: m, h => ⟨xO h.1, uF h.2⟩
 | [], _ :: _, h => h.elim
 | _ :: _, [], h => h.elim
theorem qi {a b : AV} (h : eqA2 a b) : LeA a b := by
 unfold eqA2 at h
 split at h
 ·intro own w σ v hr
  simp only [Rep] at hr ⊢
  obtain ⟨vs, hv, hr⟩ := hr
  exact ⟨vs, hv, (uF h).rep hr⟩
 ·exact xO h
theorem ZD {own : Nat → Prop} {w : World} {σ : List SE} {e : SE} {b c : Blk} (h : eqB b c) (hb : BRep own w σ e b) : BRep own w σ e c := by
 cases c with
 | dead => trivial
 | box m =>
  cases b with
  | box l =>
   simp only [eqB] at h
   simp only [BRep] at hb ⊢
   obtain ⟨ad, vs, el, h1, h2, h3, h4⟩ := hb
   exact ⟨ad, vs, el, h1, h2, h3, (qX h).rep h4⟩
  | _ => exact h.elim
 | arr n' sz' g' =>
  cases b with
  | arr n sz g =>
   simp only [eqB] at h
   obtain ⟨rfl, rfl, hg⟩ := h
   simp only [BRep] at hb ⊢
   obtain ⟨h1, h2 | ⟨ad, cs, el, h3, h4, h5, h6⟩⟩ := hb
   ·exact ⟨h1, .inl h2⟩
   ·refine ⟨h1, .inr ⟨ad, cs, el, h3, h4, h5, fun j o hj ho => ?_⟩⟩
    obtain ⟨c, h7, h8, h9⟩ := h6 j o hj ho
    exact ⟨c, h7, h8, hg j o hj ho ▸ h9⟩
  | _ => exact h.elim
def RetR (ctr : Ctr) (m : Nat) (Q : AV × Heap → Prop) (rs : List AV) (h : Heap) : Prop :=
 ∃ M : List Nat, wG M = true ∧ (∀ i ∈ M, i < h.length) ∧ (∀ j, j < m → M[j]? = some j) ∧ (ctr.fresh = true → new2 h M (resV rs) ∧ ∀ i ∈ M, newB (h.getD i .dead)) ∧ ∃ r hs, LeA (exp2 h M (resV rs)) r ∧ eqH (expH h M) hs ∧ hs.length = M.length ∧ Q (r, hs)
def Wv (ctr : Ctr) (hc : Heap) : Nat := bif ctr.wv then 0 else hc.length
theorem zf1 {g : Nat} {fn : Func} {c : Code} {ctr : Ctr} (hf : P.funcs[g]? = some fn) (hb : fn.body = some c) (hn : (fn.name == "runtime.NumGoroutine") = false)
  {args : List AV} {hc : Heap} {Q : AV × Heap → Prop} (hfr : ctr.fresh = true → hc = []) (H : ∀ (O : Nat → Prop) (w0 : World) (σ0 : List SE), σ0.length = hc.length →
   Safe none P O (Wv ctr hc) w0 σ0 (fun _ _ => False) (fun st => (resX P st fn.results.toList).holds fun rs => RetR ctr hc.length Q rs st.heap) [.code c] (kW fn args hc)) : qx P g ctr args hc Q := by
 intro O w σ0 vals hg hh hr
 left
 have hn' : ¬ fn.name = "runtime.NumGoroutine" := by simpa using hn
 refine ⟨by simp [callFunc, hf, hn', hb], ?_⟩
 refine callsIn_wide.1 (callsIn_of_wp_marks (F := Fence.wide) (n := 0) hf hb trivial ?_)
 have := H O w σ0 hh.len w σ0 _ (KP hg hh hr)
 simp only [wpK, FM] at this
 refine wpIn_mono this ?_
 rintro e a1 w1 h
 have hfin : ∀ (st : St) (σ : List SE) (a' : Act) (w' : World), ((resX P st fn.results.toList).holds fun rs => RetR ctr hc.length Q rs st.heap) → Mod O (Wv ctr hc) w σ0 w' σ st a' → ∃ v, (results fn a'.tmps).run P w' = .ok v w' ∧ ∃ v', Ending.returned v = .returned v' ∧ ∃ r hs σ', Q (r, hs) ∧ Rep (fun b => Own O σ' b ∨ (ctr.fresh = true ∧ b < w.heap.size)) w' r σ' v' ∧
   HRep (fun b => Own O σ' b ∨ (ctr.fresh = true ∧ b < w.heap.size)) w' σ' hs ∧ Good O w' σ' ∧ hc.length ≤ hs.length ∧ Hold (if ctr.wv = true then List.range hc.length else []) w σ0 w' σ' ∧ Ext (Mine σ0) w (Mine σ') w' := by
  intro st σ a' w' hR hm
  obtain ⟨rs, v, h1, ⟨M, h2, h3, h4, h5, r0, hs0, hq1, hq2, hq3, h6⟩, h7⟩ := Zp hm hR
  let σM : List SE := M.map fun i => σ.getD i ⟨none, 0⟩
  have hMσ : ∀ i ∈ M, i < σ.length := fun i hi => by rw [hm.hp.len]; exact h3 i hi
  have hget : ∀ j : Nat, σM[j]? = (M[j]?).bind fun i => σ[i]? := by
   intro j
   simp only [σM, List.getElem?_map]
   cases hj : M[j]? with
   | none => rfl
   | some i =>
    have := hMσ i (List.mem_of_getElem? hj)
    simp [this]
  have hnewO : ctr.fresh = true → ∀ b, Mine σ b → w.heap.size ≤ b := by
   intro hf b hb
   have h0 := hfr hf
   have hσ0 : σ0 = [] := by have := hh.len; rw [h0] at this; exact List.length_eq_zero_iff.1 (by simpa using this)
   obtain ⟨i, e, ad, g1, g2, g3⟩ := zy.1 hb
   rcases hm.since.ext.grow b (.inr hb) with hx | hx
   ·rcases hx with hx | ⟨e', he', _⟩
    ·exact absurd (g3 ▸ hx) (hm.good.dis i e ad g1 g2)
    ·rw [hσ0] at he'; simp at he'
   ·exact hx
  have X : Exp O w' σ st.heap M σM (fun b => Own O σM b ∨ (ctr.fresh = true ∧ b < w.heap.size)) := ⟨hm.good, hm.hp, h2, h3, hget, fun b hb => by
   rcases hb with hb | ⟨hf, hb⟩
   ·exact .inl hb
   ·exact .inr fun hmn => by have := hnewO hf b hmn; omega⟩
  have hor : ∀ {p : Prop}, (ctr.fresh = true → p) → (∀ b, (Own O σM b ∨ (ctr.fresh = true ∧ b < w.heap.size)) → Own O σ b) ∨ p := by
   intro p hp
   cases hf : ctr.fresh with
   | true => exact .inr (hp hf)
   | false =>
    left
    rintro b (hb | ⟨hf', _⟩)
    ·exact X.sub hb
    ·cases hf'
  have hmlen : hc.length ≤ M.length := by
   rcases Nat.lt_or_ge M.length hc.length with hlt | hge
   ·have := h4 M.length hlt
    simp at this
   ·exact hge
  refine ⟨v, h1, v, rfl, r0, hs0, σM, h6, hq1 _ _ _ _ (Vx X (hor fun hf => (h5 hf).1) h7), ⟨?_, ?_, ?_, ?_⟩, ⟨?_, ?_, hm.good.stat.own fun b hb => hb.imp id fun ⟨e, he, ad, h1, h2⟩ => by
   obtain ⟨j, hj⟩ := List.mem_iff_getElem?.1 he
   obtain ⟨i, _, g2⟩ := X.get' hj
   exact ⟨e, List.mem_of_getElem? g2, ad, h1, h2⟩⟩, by omega, ?_, ?_⟩
  ·simp [σM, hq3]
  ·intro i j e f a b he hf ha hb' hij
   obtain ⟨i', g1, g2⟩ := X.get' he
   obtain ⟨j', g3, g4⟩ := X.get' hf
   refine hm.hp.inj i' j' e f a b g2 g4 ha hb' ?_
   rintro rfl
   have g5 := w4 h2 g1
   have g6 := w4 h2 g3
   rw [g5] at g6; cases g6; exact hij rfl
  ·intro i e a he ha
   obtain ⟨i', g1, g2⟩ := X.get' he
   exact hm.hp.lt i' e a g2 ha
  ·intro j e b he hb'
   obtain ⟨i, g1, g2⟩ := X.get' he
   have hb2 : (expH st.heap M)[j]? = some (expB st.heap M (st.heap.getD i .dead)) := by simp only [expH, List.getElem?_map, g1, Option.map_some]
   refine ZD (yG hq2 hb2 hb') ?_
   have hlt := h3 i (List.mem_of_getElem? g1)
   have hgd : st.heap.getD i .dead = st.heap[i] := by simp [hlt]
   have hbr := hm.hp.blk i e _ g2 (List.getElem?_eq_getElem hlt)
   rw [← hgd] at hbr
   exact V9 X (hor fun hf => (h5 hf).2 i (List.mem_of_getElem? g1)) hbr
  ·exact hm.good.old
  ·intro i e ad he had
   obtain ⟨i', g1, g2⟩ := X.get' he
   exact hm.good.dis i' e ad g2 had
  ·cases hmv : ctr.wv with
   | true =>
    intro i e he hi
    simp only [if_true, List.mem_range] at hi
    have := (List.getElem?_eq_some_iff.1 he).1
    rw [hh.len] at this
    exact absurd this hi
   | false =>
    intro i e he _
    have hlt := (List.getElem?_eq_some_iff.1 he).1
    rw [hh.len] at hlt
    obtain ⟨g1, g2⟩ := hm.since.hold i e (by simpa [Wv, hmv] using hlt) he
    exact ⟨by rw [hget, h4 i hlt]; exact g1, g2⟩
  ·refine ⟨hm.since.ext.os, hm.since.ext.tape, hm.since.ext.output, hm.since.ext.size, fun b hb' hno => ?_, fun b hb' => ?_⟩
   ·by_cases hOb : O b
    ·exact hm.since.kD b hOb hb'
    ·exact hm.since.ext.keep b hb' (fun hx => by rcases hx with hx | hx; exact hOb hx; exact hno hx)
   ·rcases X.sub (.inr hb') with hx | hx
    ·obtain ⟨j, e, ad, g1, g2, g3⟩ := zy.1 hb'
     obtain ⟨i, _, g4⟩ := X.get' g1
     exact absurd (g3 ▸ hx) (hm.good.dis i e ad g4 g2)
    ·obtain ⟨i, e, ad, g1, g2, g3⟩ := zy.1 hx
     rcases hm.since.ext.grow b (.inr hx) with hy | hy
     ·rcases hy with hy | hy
      ·exact absurd (g3 ▸ hy) (hm.good.dis i e ad g1 g2)
      ·exact .inl hy
     ·exact .inr hy
 have hend : ∀ (st : St) (σ : List SE), ((resX P st fn.results.toList).holds fun rs => RetR ctr hc.length Q rs st.heap) → Mod O (Wv ctr hc) w σ0 w1 σ st a1 → LeavesInM Fence.wide 0 P fn a1.tmps (fun e w' => ∃ v, e = .returned v ∧ ∃ r hs σ', Q (r, hs) ∧ Rep (fun b => Own O σ' b ∨ (ctr.fresh = true ∧ b < w.heap.size)) w' r σ' v ∧
   HRep (fun b => Own O σ' b ∨ (ctr.fresh = true ∧ b < w.heap.size)) w' σ' hs ∧ Good O w' σ' ∧ hc.length ≤ hs.length ∧ Hold (if ctr.wv = true then List.range hc.length else []) w σ0 w' σ' ∧ Ext (Mine σ0) w (Mine σ') w') a1.defers .returning w1 := by
  intro st σ hR hm
  refine xe a1.defers w1 hm fun w' hm' => ?_
  obtain ⟨v, h1, v', h2, h3⟩ := hfin st σ _ _ hR hm'
  exact ⟨v, h1, v', h2, h3⟩
 cases e with
 | normal =>
  simp only [wpK] at h
  obtain ⟨_, st, σ, hR, hm⟩ := h
  exact hend st σ hR hm
 | ret =>
  simp only [wpK] at h
  obtain ⟨_, st, σ, hR, hm⟩ := h
  exact hend st σ hR hm
 | exit i => exact absurd h.1 (by simp)
 | goto l => exact absurd h.1 (by simp)
 | panic ch => exact absurd h.1 (by simp)
 | outgrown => exact absurd h.1 (by simp)
end
end Go.Sx
end

/- The prover's side: leaves that show only the slots that matter. -/
section
namespace Go.Sx
variable [Stat]
open Go.RowKit (Below)
def natG (k : IntKind) (l : List Nat) : Nat → Nat → AV := fun j _ => .int k ((l.getD j 0 : Nat) : Int)
def natS (k : IntKind) (l : List Nat) : AV := .sl l.length 1 (natG k l)
abbrev KV := List (Nat × AV)
def look : KV → Nat → AV
 | [], _ => .undef
 | (i, a) :: l, t => if i = t then a else look l t
def pk (n : Nat) (l : KV) : List AV := (List.range n).map (look l)
def mk (n : Nat) (l : KV) (h : Heap) : St := ⟨pk n l, h⟩
inductive jN where
 | ret (rs : List AV) (h : Heap)
 | back (d : Nat) (kv : KV) (h : Heap)
 | loop (c : Code) (k : List Item) (kv : KV) (h : Heap)
 | range (c : Code) (k : List Item) (kv : KV) (h : Heap)
def kvOf (live : List Nat) (st : St) : KV := live.map fun i => (i, see [] (st.tmps.getD i .undef))
def post (P : Program) (fn : Func) (live : List Nat) : Leaf → Tree jN
 | .ret st => (resX P st fn.results.toList).bind fun rs => .leaf (.ret rs st.heap)
 | .back d st => if st.tmps.length = fn.ntmps then .leaf (.back d (kvOf live st) st.heap) else .fail
 | .loop c k st => if st.tmps.length = fn.ntmps then .leaf (.loop c k (kvOf live st) st.heap) else .fail
 | .range c k st => if st.tmps.length = fn.ntmps then .leaf (.range c k (kvOf live st) st.heap) else .fail
def jZ : Nat → List Item → List (Code × List Item)
 | 0, _ => []
 | _ + 1, [] => []
 | n + 1, .inBlock _ :: k => jZ n k
 | _ + 1, .inLoop :: _ => []
 | n + 1, .code c :: k => match c with
  | .skip => jZ n k
  | .seq a b => jZ n (.code a :: .code b :: k)
  | .region _ _ _ => jZ n k
  | .cond _ x y => jZ n (.code x :: k) ++ jZ n (.code y :: k)
  | .block id c => jZ n (.code c :: .inBlock id :: k)
  | .loop c => [(c, k)]
  | .exit id => match exitTo id k with
   | some k' => jZ n k'
   | none => []
  | _ => []
def j3 : Nat → List Item → List (Code × List Item)
 | 0, _ => []
 | _ + 1, [] => []
 | n + 1, .inBlock _ :: k => j3 n k
 | _ + 1, .inLoop :: _ => []
 | n + 1, .code c :: k => match c with
  | .skip => j3 n k
  | .seq a b => j3 n (.code a :: .code b :: k)
  | .region _ _ _ => j3 n k
  | .cond _ x y => j3 n (.code x :: k) ++ j3 n (.code y :: k)
  | .block id c => j3 n (.code c :: .inBlock id :: k)
  | .rangeFunc g ps x y => [(.rangeFunc g ps x y, k)]
  | .exit id => match exitTo id k with
   | some k' => j3 n k'
   | none => []
  | _ => []
def rfs (K : List Item) (j : Nat) : Code × List Item := (j3 400 K).getD j (.skip, [])
def Q1 : Code → Code
 | .rangeFunc _ _ _ y => y
 | c => c
def roundOf (K : List Item) (j : Nat) : List Item := [.code (Q1 (rfs K j).1), .inLoop]
def bare (fn : Func) : Func := { fn with results := #[] }
def lps (K : List Item) (j : Nat) : Code × List Item := (jZ 400 K).getD j (.skip, [])
def inside (K : List Item) (j : Nat) : List Item := .code (lps K j).1 :: .inLoop :: (lps K j).2
def runL (P : Program) (Γ : Nat → Option Ctr) (pin : Nat) (fn : Func) (live : List Nat) (n : Nat) (k : List Item) (st : St) : Tree jN := (run P Γ pin n k st).bind (post P fn live)
section
variable {O : Nat → Prop} {pin : Nat} {w0 : World} {σ0 : List SE} {w : World} {σ : List SE} {P : Program} {st st' : St} {a : Act} {Γ : Nat → Option Ctr} {fn : Func}
theorem wP {n t : Nat} {l : KV} (h : t < n) : (pk n l).getD t .undef = look l t := by simp [pk, List.getD, h]
theorem zc7 {live : List Nat} {st : St} {t : Nat} : look (kvOf live st) t = see [] (st.tmps.getD t .undef) ∨ look (kvOf live st) t = .undef := by
 unfold kvOf
 induction live with
 | nil => exact .inr rfl
 | cons i l ih =>
  simp only [List.map_cons, look]
  split
  ·rename_i h; subst h; exact .inl rfl
  ·exact ih
theorem uX (hm : Mod O pin w0 σ0 w σ st a) (live : List Nat) (hn : st.tmps.length = fn.ntmps) : Mod O pin w0 σ0 w σ (mk fn.ntmps (kvOf live st) st.heap) a := by
 refine ⟨hm.good, hm.hp, by simp [mk, pk, hm.size, hn], fun t => ?_, hm.df, hm.since, hm.lim⟩
 by_cases ht : t < fn.ntmps
 ·simp only [mk]
  rw [wP ht]
  have := (hm.tm t).rep
  rcases zc7 (live := live) (st := st) (t := t) with h | h <;> rw [h]
  ·generalize st.tmps.getD t .undef = x at this
   cases x with
   | opt _ _ _ => simp [see, TRep, Rep]
   | _ => simpa only [see, TRep] using this
  ·simp [TRep, Rep]
 ·have : (mk fn.ntmps (kvOf live st) st.heap).tmps.getD t .undef = .undef := by simp [mk, pk, List.getD, ht]
  rw [this]; simp [TRep, Rep]
def j0 (M : Option Nat) (P : Program) (fn : Func) (O : Nat → Prop) (pin : Nat) (w0 : World) (σ0 : List SE) (Hs : Nat → KV → Heap → Prop) (R : List AV → Heap → Prop) (k : List Item) (st : St) : Prop :=
 Safe M P O pin w0 σ0 (fun d st => ∃ kv h, Hs d kv h ∧ st = mk fn.ntmps kv h) (fun st => (resX P st fn.results.toList).holds fun rs => R rs st.heap) k st
abbrev zc (P : Program) (fn : Func) (O : Nat → Prop) (pin : Nat) (w0 : World) (σ0 : List SE) (Hs : Nat → KV → Heap → Prop) (R : List AV → Heap → Prop) (k : List Item) (st : St) : Prop := j0 none P fn O pin w0 σ0 Hs R k st
def zd (M : Option Nat) (P : Program) (fn : Func) (O : Nat → Prop) (pin : Nat) (w0 : World) (σ0 : List SE) (Hs : Nat → KV → Heap → Prop) (R : List AV → Heap → Prop) : jN → Prop
 | .ret rs h => R rs h
 | .back d kv h => Hs d kv h
 | .loop c k kv h => j0 M P fn O pin w0 σ0 Hs R (.code (.loop c) :: k) (mk fn.ntmps kv h)
 | .range c k kv h => j0 M P fn O pin w0 σ0 Hs R (.code c :: k) (mk fn.ntmps kv h)
theorem zc.run {M : Option Nat} {Hs : Nat → KV → Heap → Prop} {R : List AV → Heap → Prop} {k : List Item} (hmix : P.follows .mixedOrders = true) (hΓ : ∀ g c, Γ g = some c → zb P g c) (live : List Nat) (n : Nat) {T : Tree jN} (ht : runL P Γ pin fn live n k st = T) (h : T.holds (zd M P fn O pin w0 σ0 Hs R)) : j0 M P fn O pin w0 σ0 Hs R k st := by
 subst ht
 simp only [runL, Tree.zi] at h
 intro w σ a hm
 refine qn hmix hΓ n (Tree.zV ?_ h) hm
 intro lf hl
 cases lf with
 | ret st =>
  simp only [post, Tree.zi] at hl
  exact fun w σ a hm => ⟨⟨.inl rfl, st, σ, hl, hm⟩, ⟨.inr rfl, st, σ, hl, hm⟩⟩
 | back d st =>
  simp only [post] at hl
  split at hl
  ·rename_i hn
   exact fun w σ a hm => ⟨_, σ, ⟨_, _, hl, rfl⟩, uX hm live hn⟩
  ·exact hl.elim
 | loop c k st =>
  simp only [post] at hl
  split at hl
  ·rename_i hn
   exact fun w σ a hm => hl w σ a (uX hm live hn)
  ·exact hl.elim
 | range c k st =>
  simp only [post] at hl
  split at hl
  ·rename_i hn
   exact fun w σ a hm => hl w σ a (uX hm live hn)
  ·exact hl.elim
def eqKV : KV → KV → Prop
 | [], [] => True
 | (i, a) :: l, (j, b) :: m => i = j ∧ eqA a b ∧ eqKV l m
 | _, _ => False
theorem Xx : eqA .undef .undef := by simp [eqA, eqA0]
theorem zdn {l m : List AV} (hl : l.length = m.length) (h : ∀ (i : Nat) (a b : AV), l[i]? = some a → m[i]? = some b → eqA a b) : eqL l m := by
 induction l generalizing m with
 | nil => cases m with
  | nil => trivial
  | cons b m => simp at hl
 | cons a l ih =>
  cases m with
  | nil => simp at hl
  | cons b m =>
   have h0 := h 0 a b (by simp) (by simp)
   have hr := ih (m := m) (by simpa using hl) (fun i x y hx hy => h (i + 1) x y (by simpa using hx) (by simpa using hy))
   unfold eqL
   split
   ·rename_i h1 h2; cases h1
   ·rename_i h1 h2; cases h1; cases h2; exact hr
   ·rename_i h1 h2; cases h1; cases h2; exact ⟨h0, hr⟩
   ·rename_i h1 h2 h3; exact absurd rfl (h3 _ _ _ _ rfl)
theorem Z4 : ∀ {l m : KV} (t : Nat), eqKV l m → eqA (look l t) (look m t)
 | [], [], t, _ => Xx
 | (i, a) :: l, (j, b) :: m, t, h => by
  obtain ⟨rfl, h1, h2⟩ := h
  simp only [look]
  split
  ·exact h1
  ·exact Z4 t h2
 | [], _ :: _, _, h => h.elim
 | _ :: _, [], _, h => h.elim
def YO (n : Nat) (l m : KV) (h h' : Heap) : Bool := (pk n l).all qL && (pk n m).all (lowB h'.length) && decide (h'.length ≤ h.length) && h'.all (Q2 h'.length)
def YR (n : Nat) (l m : KV) (h h' : Heap) : Bool := l.all (fun p => qL p.2) && m.all (fun p => lowB h'.length p.2) && decide (h'.length ≤ h.length) && h'.all (Q2 h'.length)
theorem JZ {f : AV → Bool} (hu : f .undef = true) : ∀ {l : KV} (t : Nat), (l.all fun p => f p.2) = true → f (look l t) = true
 | [], t, _ => hu
 | (i, a) :: l, t, h => by
  rw [List.all_cons, Bool.and_eq_true] at h
  simp only [look]
  split
  ·exact h.1
  ·exact JZ hu t h.2
theorem Um {f : AV → Bool} (hu : f .undef = true) {l : KV} {n : Nat} (h : (l.all fun p => f p.2) = true) : (pk n l).all f = true := by
 unfold pk
 rw [List.all_map, List.all_eq_true]
 exact fun t _ => JZ hu t h
theorem zc6 {n : Nat} {l m : KV} {h h' : Heap} (k : YR n l m h h' = true) : YO n l m h h' = true := by
 unfold YR at k
 unfold YO
 simp only [Bool.and_eq_true] at k ⊢
 exact ⟨⟨⟨Um rfl k.1.1.1, Um rfl k.1.1.2⟩, k.1.2⟩, k.2⟩
def LeK (pin n : Nat) (l : KV) (h : Heap) (m : KV) (h' : Heap) : Prop := eqKV l m ∧ eqH h h' ∧ YR n l m h h' = true ∧ pin ≤ h'.length
theorem LeK.le {pin n : Nat} {l m : KV} {h h' : Heap} (hle : LeK pin n l h m h') : Le pin (mk n l h) (mk n m h') := by
 obtain ⟨h1, h2, h3, h4⟩ := hle
 refine ⟨?_, h2, zc6 h3, h4⟩
 refine zdn (by simp [mk, pk]) fun i a b ha hb => ?_
 simp only [mk, pk, List.getElem?_map] at ha hb
 cases hi : (List.range n)[i]? with
 | none => simp [hi] at ha
 | some t =>
  simp only [hi, Option.map_some, Option.some.injEq] at ha hb
  subst ha; subst hb
  exact Z4 t h1
theorem JE {M : Option Nat} {H H' : Nat → Act → World → Prop} {B : Exit → Act → World → Prop} {k : List Item} {e : Exit} {a : Act} {w : World} (hh : ∀ d a w, H' d a w → H d a w) (h : wpK M P H' B k e a w) : wpK M P H B k e a w :=
 jl (fun d a w _ h => hh d a w h) h
theorem zc.loop {M : Option Nat} {ι : Type} {Hs : Nat → KV → Heap → Prop} {R : List AV → Heap → Prop} {k : List Item} {c : Code} {kv : KV} {h : Heap} (S : ι → KV) (H : ι → Heap) (μ : ι → Nat) (x0 : ι) (dk : Nat) (hle : LeK pin fn.ntmps kv h (S x0) (H x0))
  (round : ∀ x, j0 M P fn O pin w0 σ0 (fun d kv h => if d = dk then ∃ x', μ x' < μ x ∧ LeK pin fn.ntmps kv h (S x') (H x') else Hs d kv h) R (.code c :: .inLoop :: k) (mk fn.ntmps (S x) (H x)))
  (hd : wa k = dk) : j0 M P fn O pin w0 σ0 Hs R (.code (.loop c) :: k) (mk fn.ntmps kv h) := by
 subst hd
 refine Safe.loop (fun x => mk fn.ntmps (S x) (H x)) μ x0 hle.le fun x => ?_
 intro w σ a hm
 have := round x w σ a hm
 refine JE ?_ this
 intro d a w hh
 obtain ⟨st, σ, ⟨kv, h, h1, rfl⟩, h2⟩ := hh
 refine ⟨_, σ, ?_, h2⟩
 split at h1
 ·rename_i hd
  rw [if_pos hd]
  obtain ⟨x', h3, h4⟩ := h1
  exact ⟨x', h3, h4.le⟩
 ·rename_i hd
  rw [if_neg hd]
  exact ⟨kv, h, h1, rfl⟩
theorem fn_k {g : Nat} {c : Code} {ctr : Ctr} (hf : P.funcs[g]? = some fn) (hb : fn.body = some c) (hn : (fn.name == "runtime.NumGoroutine") = false)
  {args : List AV} {hc : Heap} {Q : AV × Heap → Prop} (hfr : ctr.fresh = true → hc = []) (H : ∀ (O : Nat → Prop) (w0 : World) (σ0 : List SE), σ0.length = hc.length →
   zc P fn O (Wv ctr hc) w0 σ0 (fun _ _ _ => False) (RetR ctr hc.length Q) [.code c] (kW fn args hc)) : qx P g ctr args hc Q := by
 refine zf1 hf hb hn hfr fun O w0 σ0 hl => ?_
 intro w σ a hm
 refine JE ?_ (H O w0 σ0 hl w σ a hm)
 rintro d a w ⟨st, σ, ⟨kv, h, h1, _⟩, _⟩
 exact h1.elim
theorem qW {a : AV} (h : zK a = true) : eqA0 a a := by cases a <;> simp [zK] at h <;> simp [eqA0]
theorem ZZ {a : AV} (h : x6 a = true) : eqA2 a a := by
 have hL : ∀ l : List AV, l.all zK = true → eqL0 l l := by
  intro l
  induction l with
  | nil => exact fun _ => trivial
  | cons a l ih => intro h; simp only [List.all_cons, Bool.and_eq_true] at h; exact ⟨qW h.1, ih h.2⟩
 cases a with
 | agg l => exact hL l h
 | tup l =>
  have : ∀ l : List AV, l.all zK = true → eqL1 l l := by
   intro l
   induction l with
   | nil => exact fun _ => trivial
   | cons a l ih =>
    intro h; simp only [List.all_cons, Bool.and_eq_true] at h
    refine ⟨?_, ih h.2⟩
    have := qW h.1
    cases a <;> first | exact this | (simp [zK] at h; done)
  exact this l h
 | fn g p q => exact qW (a := .fn g p q) h
 | bool b => exact qW (a := .bool b) h
 | int k n => exact qW (a := .int k n) h
 | str b => exact qW (a := .str b) h
 | nils => exact qW (a := .nils) h
 | nilp => exact qW (a := .nilp) h
 | nilf => exact qW (a := .nilf) h
 | _ => simp [x6, zK] at h
theorem RetR.scal {ctr : Ctr} {Q : AV × Heap → Prop} {rs : List AV} {h : Heap} {r : AV} (hq : Q (r, [])) (hs : x6 r = true) (hr : resV rs = r) : RetR ctr 0 Q rs h := by
 subst hr
 have e0 : ∀ a, zK a = true → exp0 h [] a = a ∧ new0 h [] a := by
  intro a ha
  cases a with
  | fn g p q => cases p <;> cases q <;> simp [zK] at ha; exact ⟨rfl, rfl⟩
  | _ => first | exact ⟨rfl, rfl⟩ | simp [zK] at ha
 have eL : ∀ l : List AV, l.all zK = true → l.map (exp0 h []) = l ∧ ∀ a ∈ l, new0 h [] a := by
  intro l hl
  rw [List.all_eq_true] at hl
  refine ⟨?_, fun a ha => (e0 a (hl a ha)).2⟩
  conv => rhs; rw [← List.map_id l]
  exact List.map_congr_left fun a ha => (e0 a (hl a ha)).1
 have e1 : exp2 h [] (resV rs) = resV rs ∧ new2 h [] (resV rs) := by
  generalize resV rs = a at hs
  cases a with
  | agg l => simp only [x6] at hs; simp only [exp2, exp1, new2, new1, (eL l hs).1]; exact ⟨trivial, (eL l hs).2⟩
  | tup l =>
   simp only [x6] at hs
   have hall := List.all_eq_true.1 hs
   have h1 : ∀ a ∈ l, exp1 h [] a = a ∧ new1 h [] a := by
    intro a ha
    have hsa := hall a ha
    obtain ⟨h2, h3⟩ := e0 a hsa
    cases a with
    | agg _ => simp [zK] at hsa
    | tup _ => simp [zK] at hsa
    | fn g p q => cases p <;> cases q <;> simp [zK] at hsa; exact ⟨rfl, rfl⟩
    | _ => exact ⟨h2, h3⟩
   refine ⟨?_, fun a ha => (h1 a ha).2⟩
   simp only [exp2]
   congr 1
   conv => rhs; rw [← List.map_id l]
   exact List.map_congr_left fun a ha => (h1 a ha).1
  | fn g p q => cases p <;> cases q <;> simp [x6, zK] at hs; exact ⟨rfl, rfl⟩
  | bool b => exact e0 (.bool b) rfl
  | int k n => exact e0 (.int k n) rfl
  | str b => exact e0 (.str b) rfl
  | nils => exact e0 .nils rfl
  | nilp => exact e0 .nilp rfl
  | nilf => exact e0 .nilf rfl
  | _ => simp [x6, zK] at hs
 exact ⟨[], rfl, by simp, by simp, fun _ => ⟨e1.2, by simp⟩, _, [], by rw [e1.1]; exact LeA.refl _, by simp [eqH], rfl, hq⟩
def ctrT {X R : Type} (fresh wv : Bool) (inp : X → List AV) (hin : X → Heap) (pre : X → Prop) (post : X → R → Prop) (out : X → R → AV × Heap) : Ctr where
 fresh := fresh
 wv := wv
 spec args hc := .ex (fun x => eqL args (inp x) ∧ eqH hc (hin x) ∧ hc.length = (hin x).length ∧ pre x) fun x => .all (post x) fun r => .leaf (out x r)
def ctrP {X R : Type} (fresh : Bool) (inp : X → List AV) (pre : X → Prop) (post : X → R → Prop) (out : X → R → AV × Heap) : Ctr where
 fresh := fresh
 spec args hc := match hc with
  | [] => .ex (fun x => eqL args (inp x) ∧ pre x) fun x => .all (post x) fun r => .leaf (out x r)
  | _ => .fail
theorem qx.le {ctr : Ctr} {g : Nat} {args args' : List AV} {hc : Heap} {Q : AV × Heap → Prop} (h : eqL args args') (k : qx P g ctr args' hc Q) : qx P g ctr args hc Q :=
 fun O w σ vals hg hh hr => k O w σ vals hg hh ((qX h).rep hr)
theorem qx.leH {ctr : Ctr} {g : Nat} {args : List AV} {hc hc' : Heap} {Q : AV × Heap → Prop} (h : eqH hc hc') (hl : hc.length = hc'.length) (k : qx P g ctr args hc' Q) : qx P g ctr args hc Q := by
 intro O w σ vals hg hh hr
 have hh' : HRep (Own O σ) w σ hc' := by
  refine ⟨hl ▸ hh.len, hh.inj, hh.lt, fun i e b he hb => ?_⟩
  have hi : i < hc.length := by rw [hl]; exact (List.getElem?_eq_some_iff.1 hb).1
  exact ZD (yG h (List.getElem?_eq_getElem hi) hb) (hh.blk i e _ he (List.getElem?_eq_getElem hi))
 have := k O w σ vals hg hh' hr
 rw [hl]
 exact this
theorem zB {X R : Type} {fresh wv : Bool} {inp : X → List AV} {hin : X → Heap} {pre : X → Prop} {post : X → R → Prop} {out : X → R → AV × Heap} {g : Nat} {c : Code} (hf : P.funcs[g]? = some fn) (hb : fn.body = some c) (hn : (fn.name == "runtime.NumGoroutine") = false)
  (hfr : fresh = true → ∀ x, hin x = [])
  (H : ∀ x, pre x → ∀ (O : Nat → Prop) (w0 : World) (σ0 : List SE) (Q : AV × Heap → Prop), σ0.length = (hin x).length → (∀ r, post x r → Q (out x r)) →
   zc P fn O (bif wv then 0 else (hin x).length) w0 σ0 (fun _ _ _ => False) (RetR (ctrT fresh wv inp hin pre post out) (hin x).length Q) [.code c] (kW fn (inp x) (hin x))) : zb P g (ctrT fresh wv inp hin pre post out) := by
 intro args hc Q hq _
 obtain ⟨x, ⟨h1, h2, h3, h4⟩, h5, h6⟩ := hq
 refine qx.le h1 (qx.leH h2 h3 (fn_k hf hb hn (fun h => hfr h x) fun O w0 σ0 hl => ?_))
 exact H x h4 O w0 σ0 Q hl h6
theorem ze {X R : Type} {fresh : Bool} {inp : X → List AV} {pre : X → Prop} {post : X → R → Prop} {out : X → R → AV × Heap} {g : Nat} {c : Code} (hf : P.funcs[g]? = some fn) (hb : fn.body = some c) (hn : (fn.name == "runtime.NumGoroutine") = false)
  (H : ∀ x, pre x → ∀ (O : Nat → Prop) (w0 : World) (Q : AV × Heap → Prop), (∀ r, post x r → Q (out x r)) →
   zc P fn O 0 w0 [] (fun _ _ _ => False) (RetR (ctrP fresh inp pre post out) 0 Q) [.code c] (entry fn (inp x))) : zb P g (ctrP fresh inp pre post out) := by
 intro args hc Q hq _
 simp only [ctrP] at hq
 split at hq
 ·obtain ⟨x, ⟨h1, h4⟩, h5, h6⟩ := hq
  refine qx.le h1 (fn_k hf hb hn (fun h => rfl) fun O w0 σ0 hl => ?_)
  have h0 : σ0 = [] := List.length_eq_zero_iff.1 (by simpa using hl)
  subst h0
  exact H x h4 O w0 Q h6
 ·exact hq.elim
theorem RetR.out0 {ctr : Ctr} {Q : AV × Heap → Prop} {rs : List AV} {h : Heap} {r : AV} (hq : Q (r, [])) (hn : ctr.fresh = true → new2 h [] (resV rs)) (he : eqA2 (exp2 h [] (resV rs)) r) : RetR ctr 0 Q rs h :=
 ⟨[], rfl, by simp, by simp, fun hf => ⟨hn hf, by simp⟩, r, [], qi he, by simp [expH, eqH], rfl, hq⟩
theorem RetR.le0 {ctr : Ctr} {Q : AV × Heap → Prop} {rs : List AV} {h : Heap} {r : AV} (hq : Q (r, [])) (hn : ctr.fresh = true → new2 h [] (resV rs)) (he : LeA (exp2 h [] (resV rs)) r) : RetR ctr 0 Q rs h :=
 ⟨[], rfl, by simp, by simp, fun hf => ⟨hn hf, by simp⟩, r, [], he, by simp [expH, eqH], rfl, hq⟩
theorem RetR.out1 {ctr : Ctr} {Q : AV × Heap → Prop} {rs : List AV} {h : Heap} {r : AV} {b : Blk} (i : Nat) (hi : i < h.length) (hq : Q (r, [b])) (hn : ctr.fresh = true → new2 h [i] (resV rs) ∧ newB (h.getD i .dead))
  (he : eqA2 (exp2 h [i] (resV rs)) r) (hb : eqB (expB h [i] (h.getD i .dead)) b) : RetR ctr 0 Q rs h :=
 ⟨[i], rfl, by simpa using hi, by simp, fun hf => ⟨(hn hf).1, by simpa using (hn hf).2⟩, r, [b], qi he, by simpa [expH, eqH] using hb, rfl, hq⟩
theorem zn {P : Program} (g : Nat) (c : Ctr) (h : (none : Option Ctr) = some c) : zb P g c := by cases h
theorem okIf {P : Program} {F : Nat → Option Ctr} {n : Nat} {C : Ctr} (h : zb P n C) (r : ∀ g c, F g = some c → zb P g c) (g : Nat) (c : Ctr) (e : (if g = n then some C else F g) = some c) : zb P g c := by
 by_cases hg : g = n
 ·subst hg
  rw [if_pos rfl] at e
  cases e
  exact h
 ·rw [if_neg hg] at e
  exact r g c e
end
end Go.Sx
end

/- Numbers as lists of groups of nine digits: the mathematics. -/
section
namespace Go.Nov
abbrev B : Nat := 1000000000
def val : List Nat → Nat
 | [] => 0
 | d :: l => d + B * val l
def dig (l : List Nat) : Prop := ∀ d ∈ l, d < B
def canon (x : Nat) : List Nat := if h : x = 0 then [] else x % B :: canon (x / B)
termination_by x
decreasing_by exact Nat.div_lt_self (Nat.pos_of_ne_zero h) (by decide)
theorem z8 : canon 0 = [] := by rw [canon]; simp
theorem qA {x : Nat} (h : x ≠ 0) : canon x = x % B :: canon (x / B) := by rw [canon]; simp [h]
theorem zh (x : Nat) : val (canon x) = x := by
 induction x using Nat.strongRecOn with
 | _ x ih =>
  by_cases h : x = 0
  ·subst h; simp [z8, val]
  ·rw [qA h, val, ih _ (Nat.div_lt_self (Nat.pos_of_ne_zero h) (by decide))]
   exact Nat.mod_add_div x B
theorem zf (x : Nat) : dig (canon x) := by
 induction x using Nat.strongRecOn with
 | _ x ih =>
  by_cases h : x = 0
  ·subst h; simp [z8, dig]
  ·rw [qA h]
   intro d hd
   rcases List.mem_cons.1 hd with rfl | hd
   ·exact Nat.mod_lt _ (by decide)
   ·exact ih _ (Nat.div_lt_self (Nat.pos_of_ne_zero h) (by decide)) d hd
theorem qw {d : Nat} {l : List Nat} : dig (d :: l) ↔ d < B ∧ dig l := by simp [dig]
theorem qJ {l m : List Nat} : dig (l ++ m) ↔ dig l ∧ dig m := by
 simp only [dig, List.mem_append]
 exact ⟨fun h => ⟨fun d hd => h d (.inl hd), fun d hd => h d (.inr hd)⟩, fun h d hd => hd.elim (h.1 d) (h.2 d)⟩
theorem zA (l m : List Nat) : val (l ++ m) = val l + B ^ l.length * val m := by
 induction l with
 | nil => simp [val]
 | cons d l ih => simp only [List.cons_append, val, ih, List.length_cons, Nat.pow_succ]; rw [Nat.mul_add, ← Nat.mul_assoc, Nat.mul_comm B (B ^ l.length), Nat.add_assoc]
theorem zW {l : List Nat} (h : dig l) : val l < B ^ l.length := by
 induction l with
 | nil => simp [val]
 | cons d l ih =>
  obtain ⟨h1, h2⟩ := qw.1 h
  have := ih h2
  simp only [val, List.length_cons, Nat.pow_succ]
  have h3 : B * (val l + 1) ≤ B * B ^ l.length := Nat.mul_le_mul_left _ this
  rw [Nat.mul_add] at h3
  rw [Nat.mul_comm (B ^ l.length)]
  omega
def tlen : List Nat → Nat
 | [] => 0
 | d :: l => if d = 0 ∧ tlen l = 0 then 0 else tlen l + 1
def qp (l : List Nat) : List Nat := l.take (tlen l)
theorem zT : ∀ l : List Nat, tlen l ≤ l.length
 | [] => Nat.le_refl _
 | d :: l => by
  have := zT l
  simp only [tlen, List.length_cons]
  split <;> omega
theorem jn : ∀ (l : List Nat) (j : Nat), tlen l ≤ j → l.getD j 0 = 0
 | [], j, _ => by simp
 | d :: l, j, h => by
  simp only [tlen] at h
  split at h
  ·rename_i hd
   cases j with
   | zero => simp [hd.1]
   | succ j => simpa using jn l j (by omega)
  ·cases j with
   | zero => omega
   | succ j => simpa using jn l j (by omega)
theorem qo : ∀ l : List Nat, 0 < tlen l → l.getD (tlen l - 1) 0 ≠ 0
 | [], h => by simp [tlen] at h
 | d :: l, h => by
  simp only [tlen] at h ⊢
  split at h
  ·omega
  ·rename_i hd
   rw [if_neg hd]
   rcases Nat.eq_zero_or_pos (tlen l) with h0 | h0
   ·rw [h0]
    simp only [h0, and_true] at hd
    simpa using hd
   ·have := qo l h0
    rw [show tlen l + 1 - 1 = (tlen l - 1) + 1 by omega]
    simpa using this
theorem val_zero {l : List Nat} (h : tlen l = 0) : val l = 0 := by
 induction l with
 | nil => rfl
 | cons d l ih =>
  simp only [tlen] at h
  split at h
  ·rename_i hd; simp [val, hd.1, ih hd.2]
  ·omega
theorem uU {l : List Nat} (h : 0 < tlen l) : 0 < val l := by
 induction l with
 | nil => simp [tlen] at h
 | cons d l ih =>
  simp only [tlen] at h
  split at h
  ·omega
  ·rename_i hd
   simp only [val]
   rcases Nat.eq_zero_or_pos (tlen l) with h0 | h0
   ·simp only [h0, and_true] at hd; omega
   ·have := ih h0
    have : 0 < B * val l := Nat.mul_pos (by decide) this
    omega
theorem zF {l : List Nat} (h : dig l) : qp l = canon (val l) := by
 induction l with
 | nil => simp [qp, tlen, val, z8]
 | cons d l ih =>
  obtain ⟨h1, h2⟩ := qw.1 h
  have ih := ih h2
  simp only [qp] at ih ⊢
  by_cases hz : d = 0 ∧ tlen l = 0
  ·have := val_zero hz.2
   simp [tlen, hz, val, this, z8]
  ·have hne : d + B * val l ≠ 0 := by
    rcases Nat.eq_zero_or_pos (tlen l) with h0 | h0
    ·simp only [h0, and_true] at hz; omega
    ·have := Nat.mul_pos (show 0 < B by decide) (uU h0)
     omega
   simp only [val, tlen, if_neg hz, List.take_succ_cons]
   rw [qA hne, ih]
   have e1 : (d + B * val l) % B = d := by rw [Nat.add_mul_mod_self_left, Nat.mod_eq_of_lt h1]
   have e2 : (d + B * val l) / B = val l := by rw [Nat.add_mul_div_left _ _ (by decide), Nat.div_eq_of_lt h1, Nat.zero_add]
   rw [e1, e2]
theorem qP (x : Nat) : tlen (canon x) = (canon x).length := by
 have := zF (zf x)
 rw [zh] at this
 have h := congrArg List.length this
 simp only [qp, List.length_take] at h
 have := zT (canon x)
 omega
theorem Z7 {l : List Nat} (h : dig l) (ht : tlen l = l.length) : canon (val l) = l := by
 rw [← zF h, qp, ht, List.take_length]
theorem uK : ∀ {l m : List Nat}, dig l → dig m → l.length = m.length → val l = val m → l = m
 | [], [], _, _, _, _ => rfl
 | [], _ :: _, _, _, h, _ => by simp at h
 | _ :: _, [], _, _, h, _ => by simp at h
 | d :: l, e :: m, h1, h2, h3, h4 => by
  obtain ⟨a1, a2⟩ := qw.1 h1
  obtain ⟨b1, b2⟩ := qw.1 h2
  simp only [val] at h4
  have e1 : d = e := by
   have := congrArg (· % B) h4
   simpa only [Nat.add_mul_mod_self_left, Nat.mod_eq_of_lt a1, Nat.mod_eq_of_lt b1] using this
  subst e1
  have e2 : val l = val m := Nat.eq_of_mul_eq_mul_left (show 0 < B by decide) (by omega)
  rw [uK a2 b2 (by simpa using h3) e2]
theorem yg {i : Nat} : ∀ {l m : List Nat}, dig l → l.length = m.length → (∀ j, i < j → l.getD j 0 = m.getD j 0) → l.getD i 0 < m.getD i 0 → val l < val m := by
 induction i with
 | zero =>
  intro l m h1 h3 h4 h5
  cases l with
  | nil => cases m with
   | nil => simp at h5
   | cons _ _ => simp at h3
  | cons d l => cases m with
   | nil => simp at h3
   | cons e m =>
    simp only [List.getD_cons_zero] at h5
    have : l = m := by
     apply List.ext_getElem (by simpa using h3)
     intro j hj hj'
     have := h4 (j + 1) (by omega)
     simpa [hj, hj'] using this
    subst this
    simp only [val]; omega
 | succ i ih =>
  intro l m h1 h3 h4 h5
  cases l with
  | nil => cases m with
   | nil => simp at h5
   | cons _ _ => simp at h3
  | cons d l => cases m with
   | nil => simp at h3
   | cons e m =>
    simp only [List.getD_cons_succ] at h5
    obtain ⟨a1, a2⟩ := qw.1 h1
    have := ih a2 (by simpa using h3) (fun j hj => by simpa using h4 (j + 1) (by omega)) h5
    simp only [val]
    have h6 : B * (val l + 1) ≤ B * val m := Nat.mul_le_mul_left _ this
    rw [Nat.mul_add] at h6
    omega
theorem zM {x y : Nat} (h : (canon x).length < (canon y).length) : x < y := by
 have h1 := zW (zf x)
 rw [zh] at h1
 have h2 : B ^ ((canon y).length - 1) ≤ y := by
  have hl := qP y
  have hpos : 0 < tlen (canon y) := by omega
  have := qo (canon y) hpos
  rw [hl] at this
  generalize hc : canon y = l at *
  have hy : val l = y := by rw [← hc, zh]
  have hsplit : l = l.take (l.length - 1) ++ [l.getD (l.length - 1) 0] := by
   have hlt : l.length - 1 < l.length := by omega
   rw [show l.getD (l.length - 1) 0 = l[l.length - 1] by simp [List.getD, hlt]]
   have := List.take_append_getElem hlt
   rw [this, show l.length - 1 + 1 = l.length by omega, List.take_length]
  rw [← hy]
  conv => rhs; rw [hsplit]
  rw [zA]
  simp only [val, List.length_take, Nat.mul_zero, Nat.add_zero]
  rw [show min (l.length - 1) l.length = l.length - 1 by omega]
  have : B ^ (l.length - 1) * 1 ≤ B ^ (l.length - 1) * l.getD (l.length - 1) 0 := Nat.mul_le_mul_left _ (Nat.pos_of_ne_zero this)
  omega
 have h3 : B ^ (canon x).length ≤ B ^ ((canon y).length - 1) := Nat.pow_le_pow_right (by decide) (by omega)
 omega
theorem zl : ∀ (l : List Nat) (i : Nat), val (l.take (i + 1)) = val (l.take i) + B ^ i * l.getD i 0
 | [], i => by simp [val]
 | d :: l, 0 => by simp [val]
 | d :: l, i + 1 => by
  have := zl l i
  simp only [List.take_succ_cons, val, this, List.getD_cons_succ, Nat.pow_succ]
  rw [Nat.mul_add, Nat.add_assoc, ← Nat.mul_assoc, Nat.mul_comm B (B ^ i)]
theorem zC {l : List Nat} (h : dig l) (i : Nat) : l.getD i 0 < B := by
 by_cases hi : i < l.length
 ·have := h l[i] (List.getElem_mem hi)
  simpa [List.getD, hi] using this
 ·simp [List.getD, List.getElem?_eq_none (Nat.le_of_not_lt hi)]
theorem xL : ∀ (l : List Nat) (p d : Nat), p < l.length → val (l.set p d) + B ^ p * l.getD p 0 = val l + B ^ p * d
 | [], p, d, h => by simp at h
 | e :: l, 0, d, _ => by simp only [List.set_cons_zero, val, List.getD_cons_zero, Nat.pow_zero]; omega
 | e :: l, p + 1, d, h => by
  have := xL l p d (by simpa using h)
  have h2 := congrArg (B * ·) this
  simp only [Nat.mul_add, ← Nat.mul_assoc] at h2
  simp only [List.set_cons_succ, val, List.getD_cons_succ, Nat.pow_succ, Nat.mul_comm (B ^ p) B]
  omega
theorem yD {l : List Nat} (h : dig l) (p : Nat) {d : Nat} (hd : d < B) : dig (l.set p d) := by
 intro e he
 rcases List.mem_or_eq_of_mem_set he with he | rfl
 ·exact h e he
 ·exact hd
theorem jc {l : List Nat} (h : dig l) (n : Nat) : dig (l.take n) := fun e he => h e (List.mem_of_mem_take he)
theorem uP {l : List Nat} (h : dig l) (n : Nat) : dig (l.drop n) := fun e he => h e (List.mem_of_mem_drop he)
theorem Zj {l : List Nat} {n : Nat} (hv : val l < B ^ n) {p : Nat} (hp : n ≤ p) : l.getD p 0 = 0 := by
 rcases Nat.eq_zero_or_pos (l.getD p 0) with h | h
 ·exact h
 exfalso
 have h1 := zl l p
 have h2 : val l = val (l.take (p + 1)) + B ^ (l.take (p + 1)).length * val (l.drop (p + 1)) := by rw [← zA, List.take_append_drop]
 have h3 : B ^ p * 1 ≤ B ^ p * l.getD p 0 := Nat.mul_le_mul_left _ h
 have h4 : B ^ n ≤ B ^ p := Nat.pow_le_pow_right (by decide) hp
 omega
def padN (n x : Nat) : List Nat := canon x ++ List.replicate (n - (canon x).length) 0
theorem je (n : Nat) : val (List.replicate n 0) = 0 := by
 induction n with
 | zero => rfl
 | succ n ih => simp [List.replicate_succ, val, ih]
theorem qD (n : Nat) : dig (List.replicate n 0) := by
 intro d hd
 rw [List.mem_replicate] at hd
 rw [hd.2]; decide
theorem WE {l : List Nat} (h : dig l) : l = padN l.length (val l) := by
 have ht := zF h
 have hl := congrArg List.length ht
 have := zT l
 simp only [qp, List.length_take] at hl
 refine uK h (qJ.2 ⟨zf _, qD _⟩) ?_ ?_
 ·simp only [padN, List.length_append, List.length_replicate]; omega
 ·rw [padN, zA, zh, je]; omega
theorem Wm {l : List Nat} (h : dig l) : tlen l = (canon (val l)).length := by
 have hl := congrArg List.length (zF h)
 have := zT l
 simp only [qp, List.length_take] at hl
 omega
end Go.Nov
end

/- Long division, one digit: the guess is the digit or one more. -/
section
set_option maxRecDepth 20000
namespace Go.Nov
def qH (v y z : Nat) : Nat → Nat → Nat → Nat
 | 0, q, _ => q
 | n + 1, q, r => if B ≤ q ∨ r * B + v < q * z then (if B ≤ r + y then q - 1 else qH v y z n (q - 1) (r + y)) else q
theorem J1 {v y z top Q : Nat} (hQ : Q < B) (hT : Q * (y * B + z) ≤ top * B + v) : ∀ (n q r : Nat), q * y + r = top → Q ≤ q → Q ≤ qH v y z n q r
 | 0, q, r, _, h => h
 | n + 1, q, r, hi, h => by
  simp only [qH]
  split
  ·rename_i hc
   have h1 : Q ≤ q - 1 := by
    rcases hc with hc | hc
    ·omega
    ·have : Q ≠ q := by
      rintro rfl
      have e : top * B = Q * y * B + r * B := by rw [← hi, Nat.add_mul]
      have e2 : Q * (y * B + z) = Q * y * B + Q * z := by rw [Nat.mul_add, Nat.mul_assoc]
      omega
     omega
   split
   ·exact h1
   ·rcases Nat.eq_zero_or_pos q with h0 | h0
    ·subst h0
     have : Q = 0 := by omega
     subst this
     exact Nat.zero_le _
    ·refine J1 hQ hT n (q - 1) (r + y) ?_ h1
     have : q * y = (q - 1) * y + y := by
      conv => lhs; rw [show q = (q - 1) + 1 by omega, Nat.add_mul, Nat.one_mul]
     omega
  ·exact h
theorem Wq {v y z top : Nat} (hz : z < B) : ∀ (n q r : Nat), q * y + r = top → r < B → B ≤ r + n * y → (q ≤ B ∨ (q = B + 1 ∧ r + y < B)) →
  qH v y z n q r < B ∧ qH v y z n q r * (y * B + z) ≤ top * B + v
 | 0, q, r, hi, hr, hn, hq => by omega
 | n + 1, q, r, hi, hr, hn, hq => by
  have hBB : B = 1000000000 := rfl
  have e : top * B = q * y * B + r * B := by rw [← hi, Nat.add_mul]
  simp only [qH]
  split
  ·rename_i hc
   have h0 : 0 < q := by
    rcases Nat.eq_zero_or_pos q with h0 | h0
    ·subst h0; simp at hc
    ·exact h0
   have hqy : q * y = (q - 1) * y + y := by
    conv => lhs; rw [show q = (q - 1) + 1 by omega, Nat.add_mul, Nat.one_mul]
   split
   ·rename_i hb
    have hq1 : q - 1 < B := by omega
    refine ⟨hq1, ?_⟩
    have e2 : (q - 1) * (y * B + z) = (q - 1) * y * B + (q - 1) * z := by rw [Nat.mul_add, Nat.mul_assoc]
    have e3 : q * y * B = (q - 1) * y * B + y * B := by rw [hqy, Nat.add_mul]
    have e4 : (q - 1) * z ≤ B * B := Nat.mul_le_mul (Nat.le_of_lt hq1) (Nat.le_of_lt hz)
    have e5 : B * B ≤ (r + y) * B := Nat.mul_le_mul_right _ hb
    rw [Nat.add_mul] at e5
    omega
   ·rename_i hb
    refine Wq hz n (q - 1) (r + y) (by omega) (by omega) ?_ (.inl (by omega))
    rw [Nat.add_mul] at hn
    omega
  ·rename_i hc
   have e2 : q * (y * B + z) = q * y * B + q * z := by rw [Nat.mul_add, Nat.mul_assoc]
   exact ⟨by omega, by omega⟩
theorem zey {W V T D S p : Nat} (hS : 0 < S) (hV1 : D * S ≤ V) (hV2 : V < (D + 1) * S) (hW1 : T * S ≤ W) (hD : B ≤ D) (hp : p < B) (hpT : p * D ≤ T) : p ≤ W / V + 1 := by
 have hBB : B = 1000000000 := rfl
 have hV0 : 0 < V := Nat.lt_of_lt_of_le (Nat.mul_pos (by omega) hS) hV1
 rcases Nat.lt_or_ge (W / V + 1) p with h | h
 ·exfalso
  have h1 : W < (p - 1) * V := by
   have := Nat.lt_mul_div_succ W hV0
   have h2 : V * (W / V + 1) ≤ V * (p - 1) := Nat.mul_le_mul_left _ (by omega)
   rw [Nat.mul_comm (p - 1)]
   omega
  have h2 : p * D * S ≤ T * S := Nat.mul_le_mul_right _ hpT
  have h3 : (p - 1) * V ≤ (p - 1) * ((D + 1) * S) := Nat.mul_le_mul_left _ (Nat.le_of_lt hV2)
  have h4 : p * D * S < (p - 1) * (D + 1) * S := by
   rw [Nat.mul_assoc (p - 1)]; omega
  have h5 := Nat.lt_of_mul_lt_mul_right h4
  have h6 : (p - 1) * (D + 1) = (p - 1) * D + (p - 1) := by rw [Nat.mul_add, Nat.mul_one]
  have hp1 : 1 ≤ p := by
   have : 0 ≤ W / V := Nat.zero_le _
   omega
  have h7 : p * D = (p - 1) * D + D := by
   have e : p = (p - 1) + 1 := by omega
   conv => lhs; rw [e, Nat.add_mul, Nat.one_mul]
  omega
 ·exact h
theorem Y1 {W V T D S : Nat} (hS : 0 < S) (hV0 : 0 < V) (hV1 : D * S ≤ V) (hW2 : W < (T + 1) * S) : W / V * D ≤ T := by
 have h1 : W / V * V ≤ W := Nat.div_mul_le_self W V
 have h2 : W / V * (D * S) ≤ W / V * V := Nat.mul_le_mul_left _ hV1
 have h3 : W / V * D * S < (T + 1) * S := by rw [Nat.mul_assoc]; omega
 have := Nat.lt_of_mul_lt_mul_right h3
 omega
theorem XW {y z : Nat} (hy : 0 < y) : B ≤ y * B + z := by
 exact Nat.le_trans (Nat.le_mul_of_pos_left B hy) (Nat.le_add_right _ _)
theorem zds {X v D S V W : Nat} (hV2 : V < (D + 1) * S) (hW1 : (X * B + v) * S ≤ W) (hWV : W < V * B) : X ≤ D := by
 have h2 : V * B < (D + 1) * S * B := Nat.mul_lt_mul_of_pos_right hV2 (by decide)
 rw [Nat.mul_assoc, Nat.mul_comm S B, ← Nat.mul_assoc] at h2
 have h1 : (X * B + v) * S < ((D + 1) * B) * S := Nat.lt_of_le_of_lt hW1 (Nat.lt_trans hWV h2)
 have h3 := Nat.lt_of_mul_lt_mul_right h1
 have h4 : X * B < (D + 1) * B := Nat.lt_of_le_of_lt (Nat.le_add_right _ _) h3
 exact Nat.le_of_lt_succ (Nat.lt_of_mul_lt_mul_right h4)
theorem zek {Q q r y z top v : Nat} (hQ : Q * (y * B + z) ≤ top * B + v) (hv : v < B) (hdm : q * y + r = top) (hr : r < y) : Q ≤ q := by
 have h1 : Q * (y * B) ≤ Q * (y * B + z) := Nat.mul_le_mul_left _ (Nat.le_add_right _ _)
 have h2 : Q * y * B < (top + 1) * B := by
  rw [Nat.mul_assoc, Nat.add_mul, Nat.one_mul]
  exact Nat.lt_of_le_of_lt (Nat.le_trans h1 hQ) (Nat.add_lt_add_left hv _)
 have h3 := Nat.lt_of_mul_lt_mul_right h2
 have h4 : Q * y < (q + 1) * y := by
  rw [Nat.add_mul, Nat.one_mul]
  clear h1 h2 hQ
  omega
 exact Nat.le_of_lt_succ (Nat.lt_of_mul_lt_mul_right h4)
theorem Y3 {q r y z top : Nat} (htop : top ≤ y * B + z) (hdm : q * y + r = top) (hr : r < y) (hz : z < B) (hy : B ≤ 2 * y) : q ≤ B ∨ (q = B + 1 ∧ r + y < B) := by
 rcases Nat.lt_or_ge B q with h | h
 ·right
  have h1 : (B + 1) * y ≤ q * y := Nat.mul_le_mul_right _ h
  have e1 : (B + 1) * y = y * B + y := by rw [Nat.add_mul, Nat.one_mul, Nat.mul_comm]
  rcases Nat.lt_or_ge (B + 1) q with h2 | h2
  ·exfalso
   have h3 : (B + 2) * y ≤ q * y := Nat.mul_le_mul_right _ h2
   have e2 : (B + 2) * y = y * B + 2 * y := by rw [Nat.add_mul, Nat.mul_comm B]
   omega
  ·have : q = B + 1 := by omega
   subst this
   exact ⟨rfl, by omega⟩
 ·exact .inl h
theorem Wd {W V S t u v y z : Nat} (hS : 0 < S) (hV1 : (y * B + z) * S ≤ V) (hV2 : V < (y * B + z + 1) * S) (hW1 : ((t * B + u) * B + v) * S ≤ W) (hW2 : W < ((t * B + u) * B + v + 1) * S)
  (hWV : W < V * B) (hz : z < B) (hv : v < B) (hy : B ≤ 2 * y) (hyB : y < B) (hy0 : 0 < y) :
  W / V ≤ qH v y z 2 ((t * B + u) / y) ((t * B + u) % y) ∧ qH v y z 2 ((t * B + u) / y) ((t * B + u) % y) ≤ W / V + 1 ∧ qH v y z 2 ((t * B + u) / y) ((t * B + u) % y) < B ∧ t * B + u ≤ y * B + z := by
 have hD : B ≤ y * B + z := XW hy0
 have hV0 : 0 < V := Nat.lt_of_lt_of_le (Nat.mul_pos (Nat.lt_of_lt_of_le (by decide) hD) hS) hV1
 have htop := zds hV2 hW1 hWV
 have hQB : W / V < B := Nat.div_lt_of_lt_mul hWV
 have hQD := Y1 (T := (t * B + u) * B + v) hS hV0 hV1 hW2
 have hdm : (t * B + u) / y * y + (t * B + u) % y = t * B + u := by rw [Nat.mul_comm]; exact Nat.div_add_mod _ y
 have hmod : (t * B + u) % y < y := Nat.mod_lt _ hy0
 have hQq := zek hQD hv hdm hmod
 have hq := Y3 htop hdm hmod hz hy
 have hrB : (t * B + u) % y < B := Nat.lt_trans hmod hyB
 have hle := Wq (v := v) hz 2 _ _ hdm hrB (Nat.le_trans hy (Nat.le_add_left _ _)) hq
 exact ⟨J1 hQB hQD 2 _ _ hdm hQq, zey hS hV1 hV2 hW1 hD hle.1 hle.2, hle.1, htop⟩
end Go.Nov
end

/- Long division: the mathematics of a step. -/
section
namespace Go.Nov
theorem top2 {l : List Nat} {m : Nat} (h : dig l) (hl : l.length = m + 2) : ∃ r, r < B ^ m ∧ val l = r + B ^ m * (l.getD m 0 + B * l.getD (m + 1) 0) := by
 refine ⟨val (l.take m), ?_, ?_⟩
 ·have := zW (jc h m)
  rwa [List.length_take, Nat.min_eq_left (by omega)] at this
 ·have h1 := zl l m
  have h2 := zl l (m + 1)
  rw [List.take_of_length_le (by omega), h1, Nat.pow_succ] at h2
  rw [h2, Nat.mul_add, Nat.mul_assoc, Nat.add_assoc]
theorem top3 {l : List Nat} {m : Nat} (h : dig l) (hl : l.length = m + 3) : ∃ r, r < B ^ m ∧ val l = r + B ^ m * (l.getD m 0 + B * (l.getD (m + 1) 0 + B * l.getD (m + 2) 0)) := by
 refine ⟨val (l.take m), ?_, ?_⟩
 ·have := zW (jc h m)
  rwa [List.length_take, Nat.min_eq_left (by omega)] at this
 ·have h1 := zl l m
  have h2 := zl l (m + 1)
  have h3 := zl l (m + 2)
  rw [List.take_of_length_le (by omega), h2, h1, Nat.pow_succ, Nat.pow_succ] at h3
  rw [h3, Nat.pow_succ]
  simp only [Nat.mul_add, Nat.mul_assoc, Nat.add_assoc]
theorem horner (b t u v : Nat) : v + b * (u + b * t) = (t * b + u) * b + v := by grind
theorem za0 (p b y : Nat) : 2 * (p * (y * b)) = p * b * (2 * y) := by grind
theorem KA {r S x V : Nat} (hr : r < S) (h : V = r + S * x) : x * S ≤ V ∧ V < (x + 1) * S := by
 rw [h, Nat.succ_mul, Nat.mul_comm x S]; omega
theorem k6 (u : List Nat) (j k i : Nat) (hi : i < k) : ((u.drop j).take k).getD i 0 = u.getD (j + i) 0 := by
 simp [List.getElem?_take, hi, List.getElem?_drop]
theorem Zy (u : List Nat) (j k : Nat) (h : j + k ≤ u.length) : val u = val (u.take j) + B ^ j * (val ((u.drop j).take k) + B ^ k * val (u.drop (j + k))) := by
 have h1 : u = u.take j ++ ((u.drop j).take k ++ u.drop (j + k)) := by
  rw [← List.drop_drop, List.take_append_drop, List.take_append_drop]
 conv => lhs; rw [h1]
 rw [zA, zA, List.length_take, Nat.min_eq_left (by omega), List.length_take, List.length_drop, Nat.min_eq_left (by omega)]
theorem zr {x n : Nat} (h : x < B ^ n) : (canon x).length ≤ n := by
 rcases Nat.lt_or_ge n (canon x).length with h1 | h1
 ·exfalso
  have h2 := zM (x := B ^ n - 1) (y := x) ?_
  ·omega
  ·have h3 := zW (zf (B ^ n - 1))
   have : ¬ n < (canon (B ^ n - 1)).length := by
    intro hlt
    have hne : canon (B ^ n - 1) ≠ [] := by intro h0; rw [h0] at hlt; simp at hlt
    have hl := qP (B ^ n - 1)
    have htop := qo (canon (B ^ n - 1)) (by omega)
    rw [hl] at htop
    have h4 := zl (canon (B ^ n - 1)) ((canon (B ^ n - 1)).length - 1)
    rw [Nat.sub_add_cancel (by omega), List.take_length, zh] at h4
    have h5 : B ^ n ≤ B ^ ((canon (B ^ n - 1)).length - 1) := Nat.pow_le_pow_right (by decide) (by omega)
    have h6 : B ^ ((canon (B ^ n - 1)).length - 1) * 1 ≤ B ^ ((canon (B ^ n - 1)).length - 1) * (canon (B ^ n - 1)).getD ((canon (B ^ n - 1)).length - 1) 0 := Nat.mul_le_mul_left _ (by omega)
    have h7 : 0 < B ^ n := Nat.pow_pos (by decide)
    omega
   omega
 ·exact h1
theorem jh {x n : Nat} (h : B ^ n ≤ x) : n < (canon x).length := by
 have := zW (zf x)
 rw [zh] at this
 rcases Nat.lt_or_ge n (canon x).length with h1 | h1
 ·exact h1
 ·have : B ^ (canon x).length ≤ B ^ n := Nat.pow_le_pow_right (by decide) h1
  omega
theorem Y7 {t s : Nat} (ht : 0 < t) (hs : s = B / (t + 1)) (htB : t < B) : 0 < s ∧ s * (t + 1) ≤ B ∧ B ≤ 2 * (t * s) := by
 have h1 : s * (t + 1) ≤ B := hs ▸ Nat.div_mul_le_self _ _
 have h2 : B < (s + 1) * (t + 1) := by
  have := Nat.lt_mul_div_succ B (show 0 < t + 1 by omega)
  rw [← hs, Nat.mul_comm] at this; exact this
 have h3 : 0 < s := by rw [hs]; exact Nat.div_pos (by omega) (by omega)
 refine ⟨h3, h1, ?_⟩
 obtain ⟨a, rfl⟩ : ∃ a, t = a + 1 := ⟨t - 1, by omega⟩
 obtain ⟨b, rfl⟩ : ∃ b, s = b + 1 := ⟨s - 1, by omega⟩
 have e : (a + 1) * (b + 1) = a * b + a + b + 1 := by simp only [Nat.add_mul, Nat.mul_add]; omega
 have e2 : (b + 1 + 1) * (a + 1 + 1) = a * b + 2 * a + 2 * b + 4 := by simp only [Nat.add_mul, Nat.mul_add, Nat.mul_comm b a]; omega
 rw [e2] at h2
 rw [e]
 have hB : B = 1000000000 := rfl
 generalize a * b = p at *
 omega
theorem scaled {y n s t r : Nat} (hr : r < B ^ n) (hy : y = r + B ^ n * t) (hs : 0 < s) (h1 : s * (t + 1) ≤ B) (h2 : B ≤ 2 * (t * s)) :
  y * s < B ^ (n + 1) ∧ B ^ (n + 1) ≤ 2 * (y * s) := by
 have h3 : y < B ^ n * (t + 1) := by rw [Nat.mul_add]; omega
 constructor
 ·calc y * s < B ^ n * (t + 1) * s := Nat.mul_lt_mul_of_pos_right h3 hs
   _ = B ^ n * (s * (t + 1)) := by rw [Nat.mul_assoc, Nat.mul_comm (t + 1)]
   _ ≤ B ^ n * B := Nat.mul_le_mul_left _ h1
   _ = B ^ (n + 1) := (Nat.pow_succ ..).symm
 ·calc B ^ (n + 1) = B ^ n * B := Nat.pow_succ ..
   _ ≤ B ^ n * (2 * (t * s)) := Nat.mul_le_mul_left _ h2
   _ = 2 * (B ^ n * t * s) := by rw [Nat.mul_left_comm, Nat.mul_assoc]
   _ ≤ 2 * (y * s) := Nat.mul_le_mul_left _ (Nat.mul_le_mul_right _ (by omega))
theorem Y4 {u : List Nat} {j m V W d : Nat} (hd : dig u) (hj : j + (m + 2) + 1 ≤ u.length) (hVl : (canon V).length = m + 2) (hV2 : B ^ (m + 2) ≤ 2 * V) (hlt : val u < V * B ^ (j + 1))
  (hW : val ((u.drop j).take (m + 2 + 1)) = W) (hdd : qH (u.getD (j + m) 0) ((canon V).getD (m + 1) 0) ((canon V).getD m 0) 2 ((u.getD (j + (m + 2)) 0 * B + u.getD (j + (m + 1)) 0) / (canon V).getD (m + 1) 0) ((u.getD (j + (m + 2)) 0 * B + u.getD (j + (m + 1)) 0) % (canon V).getD (m + 1) 0) = d) :
  W < V * B ∧ B ≤ 2 * (canon V).getD (m + 1) 0 ∧ u.getD (j + (m + 2)) 0 ≤ (canon V).getD (m + 1) 0 ∧ W / V ≤ d ∧ d ≤ W / V + 1 ∧ d < B := by
 have hB : B = 1000000000 := rfl
 have hVB := zW (zf V)
 rw [zh, hVl] at hVB
 have hP : 0 < B ^ m := Nat.pow_pos (by decide)
 have hWV : W < V * B := by
  have h1 := Zy u j (m + 2 + 1) (by omega)
  have h2 : B ^ j * W ≤ val u := by rw [h1, Nat.mul_add, hW]; exact Nat.le_trans (Nat.le_add_right _ _) (Nat.le_add_left _ _)
  have h3 : B ^ j * W < B ^ j * (V * B) := by
   calc B ^ j * W ≤ val u := h2
    _ < V * B ^ (j + 1) := hlt
    _ = B ^ j * (V * B) := by rw [Nat.pow_succ, Nat.mul_left_comm]
  exact Nat.lt_of_mul_lt_mul_left h3
 obtain ⟨rv, hrv, hv⟩ := top2 (zf V) hVl
 rw [zh] at hv
 have hwl : ((u.drop j).take (m + 2 + 1)).length = m + 3 := by simp; omega
 obtain ⟨rw', hrw, hw⟩ := top3 (jc (uP hd j) (m + 2 + 1)) hwl
 rw [k6 _ _ _ _ (by omega), k6 _ _ _ _ (by omega), k6 _ _ _ _ (by omega)] at hw
 have hyB := zC (zf V) (m + 1)
 have hzB := zC (zf V) m
 have hvB := zC hd (j + m)
 have huB := zC hd (j + (m + 1))
 rw [hW] at hw
 generalize hyy : (canon V).getD (m + 1) 0 = y at *
 generalize hzz : (canon V).getD m 0 = z at *
 generalize u.getD (j + (m + 2)) 0 = t at *
 generalize u.getD (j + (m + 1)) 0 = uu at *
 generalize u.getD (j + m) 0 = vv at *
 have ev : z + B * y = y * B + z := by rw [Nat.mul_comm y B, Nat.add_comm]
 have ew : vv + B * (uu + B * t) = (t * B + uu) * B + vv := horner B t uu vv
 rw [ev] at hv; rw [ew] at hw
 have hy2 : B ≤ 2 * y := by
  rcases Nat.lt_or_ge (2 * y) B with h1 | h1
  ·exfalso
   have h2 : V < B ^ m * (y * B + z + 1) := by rw [Nat.mul_add]; omega
   have h3 : B ^ m * (y * B + z + 1) ≤ B ^ m * ((y + 1) * B) := Nat.mul_le_mul_left _ (by rw [Nat.add_mul]; omega)
   have h4 : 2 * (B ^ m * ((y + 1) * B)) = B ^ (m + 1) * (2 * (y + 1)) := by
    rw [Nat.pow_succ]; exact za0 _ _ _
   have h5 : B ^ (m + 1) * (2 * (y + 1)) ≤ B ^ (m + 1) * B := Nat.mul_le_mul_left _ (by omega)
   have h6 : B ^ (m + 2) = B ^ (m + 1) * B := Nat.pow_succ ..
   omega
  ·exact h1
 obtain ⟨a1, a2⟩ := KA hrv hv
 obtain ⟨b1, b2⟩ := KA hrw hw
 obtain ⟨g1, g2, g3, g4⟩ := Wd (W := W) (V := V) (S := B ^ m) (t := t) (u := uu) (v := vv) (y := y) (z := z) hP a1 a2 b1 b2 hWV hzB hvB hy2 hyB (by omega)
 rw [hdd] at g1 g2 g3
 refine ⟨hWV, hy2, ?_, g1, g2, g3⟩
 rcases Nat.lt_or_ge y t with h1 | h1
 ·exfalso
  have h2 : (y + 1) * B ≤ t * B := Nat.mul_le_mul_right _ h1
  rw [Nat.add_mul] at h2
  omega
 ·exact h1
theorem step_eq {u u' q : List Nat} {j k V U0 : Nat} (hd : dig u) (hj : j + k ≤ u.length) (hV : V < B ^ (k - 1)) (hk : 1 ≤ k) (hV0 : 0 < V) (hlt : val u < V * B ^ (j + 1)) (hq : j < q.length) (heq : U0 = V * B ^ (j + 1) * val (q.drop (j + 1)) + val u)
  (hu' : val u' = val (u.take j) + B ^ j * (val ((u.drop j).take k) % V + B ^ k * val (u.drop (j + k)))) :
  val u' < V * B ^ j ∧ U0 = V * B ^ j * val ((q.set j (val ((u.drop j).take k) / V)).drop j) + val u' := by
 have h1 := Zy u j k hj
 have h0 := zW (jc hd j)
 rw [List.length_take, Nat.min_eq_left (by omega)] at h0
 have hP : 0 < B ^ j := Nat.pow_pos (by decide)
 generalize val ((u.drop j).take k) = W at *
 generalize val (u.take j) = r at *
 have hH : val (u.drop (j + k)) = 0 := by
  rcases Nat.eq_zero_or_pos (val (u.drop (j + k))) with h | h
  ·exact h
  ·exfalso
   have h2 : B ^ k * 1 ≤ B ^ k * val (u.drop (j + k)) := Nat.mul_le_mul_left _ h
   have h3 : B ^ j * B ^ k ≤ val u := by
    rw [h1]
    refine Nat.le_trans (Nat.mul_le_mul_left _ (m := W + B ^ k * val (u.drop (j + k))) (by omega)) (Nat.le_add_left _ _)
   have h4 : V * B ^ (j + 1) < B ^ (k - 1) * B ^ (j + 1) := Nat.mul_lt_mul_of_pos_right hV (Nat.pow_pos (by decide))
   have h5 : B ^ (k - 1) * B ^ (j + 1) = B ^ j * B ^ k := by rw [← Nat.pow_add, ← Nat.pow_add]; congr 1; omega
   omega
 rw [hH] at h1 hu'
 simp only [Nat.mul_zero, Nat.add_zero] at h1 hu'
 have hm := Nat.mod_lt W hV0
 have hdm := Nat.div_add_mod W V
 constructor
 ·rw [hu']
  have : B ^ j * (W % V + 1) ≤ B ^ j * V := Nat.mul_le_mul_left _ hm
  rw [Nat.mul_add] at this
  rw [Nat.mul_comm V]; omega
 ·have hset : (q.set j (W / V)).drop j = (W / V) :: q.drop (j + 1) := by
   rw [List.drop_eq_getElem_cons (by simpa using hq)]
   simp [List.drop_set_of_lt]
  rw [hset, heq, hu', h1]
  simp only [val]
  generalize W / V = d at *
  generalize W % V = e at *
  rw [← hdm, Nat.pow_succ]
  simp only [Nat.mul_add, ← Nat.mul_assoc]
  have e1 : V * B ^ j * B * val (List.drop (j + 1) q) = V * B ^ j * B * val (List.drop (j + 1) q) := rfl
  have e2 : B ^ j * V * d = V * B ^ j * d := by rw [Nat.mul_comm (B ^ j) V]
  omega
def mixL (u c : List Nat) (j i : Nat) : List Nat := (List.range u.length).map fun p => if j ≤ p ∧ p < j + i then c.getD (p - j) 0 else u.getD p 0
theorem JX (u c : List Nat) (j i : Nat) : (mixL u c j i).length = u.length := by simp [mixL]
theorem KC (u c : List Nat) (j : Nat) : mixL u c j 0 = u := by
 apply List.ext_getElem (by simp [mixL])
 intro p h1 h2
 simp only [mixL, List.getElem_map, List.getElem_range]
 rw [if_neg (by omega)]; simp [h2]
theorem Wg (u c : List Nat) (j i : Nat) (x : Nat) : ((mixL u c j i).set (j + i) x).set (j + i) (c.getD i 0) = mixL u c j (i + 1) := by
 rw [List.set_set]
 apply List.ext_getElem (by simp [mixL])
 intro p h1 h2
 simp only [List.getElem_set, mixL, List.getElem_map, List.getElem_range]
 by_cases hp : j + i = p
 ·subst hp; rw [if_pos rfl, if_pos ⟨by omega, by omega⟩]; congr 1; omega
 ·rw [if_neg hp]
  by_cases hc : j ≤ p ∧ p < j + i
  ·rw [if_pos hc, if_pos ⟨hc.1, by omega⟩]
  ·rw [if_neg hc, if_neg (by omega)]
theorem UU {u c : List Nat} (hu : dig u) (hc : dig c) (j i : Nat) : dig (mixL u c j i) := by
 intro d hd
 simp only [mixL, List.mem_map] at hd
 obtain ⟨p, _, rfl⟩ := hd
 split
 ·exact zC hc _
 ·exact zC hu _
theorem Y9 {u : List Nat} {L j k : Nat} (hj : j + k ≤ u.length) (hL : (canon L).length ≤ k) : val (mixL u (canon L) j k) = val (u.take j) + B ^ j * (L + B ^ k * val (u.drop (j + k))) := by
 have h : mixL u (canon L) j k = u.take j ++ (padN k L ++ u.drop (j + k)) := by
  apply List.ext_getElem (by simp [mixL, padN]; omega)
  intro p h1 h2
  simp only [mixL, List.getElem_map, List.getElem_range]
  rw [JX] at h1
  by_cases ha : p < j
  ·rw [if_neg (by omega), List.getElem_append_left (by simp; omega)]; simp [h1]
  ·have hjl : (u.take j).length = j := by simp; omega
   rw [List.getElem_append_right (by omega)]
   simp only [hjl]
   have hpl : (padN k L).length = k := by simp [padN]; omega
   by_cases hb : p - j < k
   ·rw [if_pos (by omega), List.getElem_append_left (by omega)]
    simp only [padN]
    by_cases hc : p - j < (canon L).length
    ·rw [List.getElem_append_left hc]; simp [hc]
    ·rw [List.getElem_append_right (by omega)]; simp [List.getElem?_eq_none (Nat.le_of_not_lt hc)]
   ·rw [if_neg (by omega), List.getElem_append_right (by omega)]
    simp only [hpl, List.getElem_drop]
    have : j + k + (p - j - k) = p := by omega
    simp [this, h1]
 rw [h, zA, zA, List.length_take, Nat.min_eq_left (by omega)]
 have hpl : (padN k L).length = k := by simp [padN]; omega
 have hpv : val (padN k L) = L := by rw [padN, zA, zh, je]; simp
 rw [hpl, hpv]
end Go.Nov
end

/- Decimal digits in strings of bytes. -/
section
namespace Go.Nov
def isD (c : UInt8) : Bool := 48 ≤ c.toNat && c.toNat ≤ 57
def allD (l : List UInt8) : Prop := ∀ c ∈ l, 48 ≤ c.toNat ∧ c.toNat ≤ 57
def numD (l : List UInt8) : Nat := l.foldl (fun a c => a * 10 + (c.toNat - 48)) 0
theorem zf4 (l : List UInt8) (a : Nat) : l.foldl (fun a c => a * 10 + (c.toNat - 48)) a = a * 10 ^ l.length + numD l := by
 induction l generalizing a with
 | nil => simp [numD]
 | cons c l ih =>
  simp only [List.foldl_cons, numD, List.length_cons]
  rw [ih, ih (0 * 10 + (c.toNat - 48)), Nat.pow_succ]
  generalize 10 ^ l.length = p
  generalize numD l = q
  generalize c.toNat - 48 = d
  rw [Nat.add_mul, Nat.zero_mul, Nat.zero_add, Nat.mul_assoc, Nat.mul_comm 10 p]
  omega
theorem wT (l m : List UInt8) : numD (l ++ m) = numD l * 10 ^ m.length + numD m := by
 rw [numD, List.foldl_append, zf4]; rfl
theorem Xf (l : List UInt8) (c : UInt8) : numD (l ++ [c]) = numD l * 10 + (c.toNat - 48) := by
 simp [numD]
theorem x8 {l : List UInt8} (h : allD l) : numD l < 10 ^ l.length := by
 induction l with
 | nil => simp [numD]
 | cons c l ih =>
  have hc := h c (by simp)
  have hl := ih fun d hd => h d (by simp [hd])
  have : numD (c :: l) = (c.toNat - 48) * 10 ^ l.length + numD l := by
   rw [show c :: l = [c] ++ l from rfl, wT]; simp [numD]
  rw [this, List.length_cons, Nat.pow_succ]
  have h2 : (c.toNat - 48) * 10 ^ l.length ≤ 9 * 10 ^ l.length := Nat.mul_le_mul_right _ (by omega)
  omega
theorem W9 (l : List UInt8) (i : Nat) (h : i < l.length) : l.take (i + 1) = l.take i ++ [l.getD i 0] := by
 rw [List.take_succ_eq_append_getElem h]; simp [List.getD, h]
def decB (x : ByteArray) : Nat := numD x.data.toList
theorem zad {x : ByteArray} (h : allD x.data.toList) (hl : x.size ≤ 9) : decB x < B := by
 have h1 := x8 h
 have h2 : x.data.toList.length = x.size := by rw [Array.length_toList]; rfl
 have h3 : 10 ^ x.data.toList.length ≤ 10 ^ 9 := Nat.pow_le_pow_right (by decide) (by omega)
 have h4 : (10 : Nat) ^ 9 = B := by decide
 unfold decB
 omega
end Go.Nov
end

/- Numbers as lists of decimal digits: the mathematics. -/
section
namespace Go.Nov.Ten
abbrev B : Nat := 10
def val : List Nat → Nat
 | [] => 0
 | d :: l => d + B * val l
def dig (l : List Nat) : Prop := ∀ d ∈ l, d < B
def km : Nat → Nat → List Nat
 | 0, _ => []
 | n + 1, x => if x = 0 then [] else x % B :: km n (x / B)
def canon (x : Nat) : List Nat := km x x
theorem ZC : ∀ (n m x : Nat), x ≤ n → x ≤ m → km n x = km m x
 | 0, m, x, h, _ => by
  have : x = 0 := by omega
  subst this
  cases m <;> simp [km]
 | n + 1, 0, x, _, h => by
  have : x = 0 := by omega
  subst this
  simp [km]
 | n + 1, m + 1, x, h1, h2 => by
  simp only [km]
  by_cases h : x = 0
  ·rw [if_pos h, if_pos h]
  ·have := Nat.div_lt_self (Nat.pos_of_ne_zero h) (show 1 < B by decide)
   rw [if_neg h, if_neg h, ZC n m (x / B) (by omega) (by omega)]
theorem z8 : canon 0 = [] := rfl
theorem qA {x : Nat} (h : x ≠ 0) : canon x = x % B :: canon (x / B) := by
 have := Nat.div_lt_self (Nat.pos_of_ne_zero h) (show 1 < B by decide)
 obtain ⟨n, rfl⟩ : ∃ n, x = n + 1 := ⟨x - 1, by omega⟩
 unfold canon
 rw [km, if_neg h, ZC n ((n + 1) / B) _ (by omega) (Nat.le_refl _)]
theorem zh (x : Nat) : val (canon x) = x := by
 induction x using Nat.strongRecOn with
 | _ x ih =>
  by_cases h : x = 0
  ·subst h; simp [z8, val]
  ·rw [qA h, val, ih _ (Nat.div_lt_self (Nat.pos_of_ne_zero h) (by decide))]
   exact Nat.mod_add_div x B
theorem zf (x : Nat) : dig (canon x) := by
 induction x using Nat.strongRecOn with
 | _ x ih =>
  by_cases h : x = 0
  ·subst h; simp [z8, dig]
  ·rw [qA h]
   intro d hd
   rcases List.mem_cons.1 hd with rfl | hd
   ·exact Nat.mod_lt _ (by decide)
   ·exact ih _ (Nat.div_lt_self (Nat.pos_of_ne_zero h) (by decide)) d hd
theorem qw {d : Nat} {l : List Nat} : dig (d :: l) ↔ d < B ∧ dig l := by simp [dig]
theorem qJ {l m : List Nat} : dig (l ++ m) ↔ dig l ∧ dig m := by
 simp only [dig, List.mem_append]
 exact ⟨fun h => ⟨fun d hd => h d (.inl hd), fun d hd => h d (.inr hd)⟩, fun h d hd => hd.elim (h.1 d) (h.2 d)⟩
theorem zA (l m : List Nat) : val (l ++ m) = val l + B ^ l.length * val m := by
 induction l with
 | nil => simp [val]
 | cons d l ih => simp only [List.cons_append, val, ih, List.length_cons, Nat.pow_succ]; rw [Nat.mul_add, ← Nat.mul_assoc, Nat.mul_comm B (B ^ l.length), Nat.add_assoc]
theorem zW {l : List Nat} (h : dig l) : val l < B ^ l.length := by
 induction l with
 | nil => simp [val]
 | cons d l ih =>
  obtain ⟨h1, h2⟩ := qw.1 h
  have := ih h2
  simp only [val, List.length_cons, Nat.pow_succ]
  have h3 : B * (val l + 1) ≤ B * B ^ l.length := Nat.mul_le_mul_left _ this
  rw [Nat.mul_add] at h3
  rw [Nat.mul_comm (B ^ l.length)]
  omega
def tlen : List Nat → Nat
 | [] => 0
 | d :: l => if d = 0 ∧ tlen l = 0 then 0 else tlen l + 1
def qp (l : List Nat) : List Nat := l.take (tlen l)
theorem zT : ∀ l : List Nat, tlen l ≤ l.length
 | [] => Nat.le_refl _
 | d :: l => by
  have := zT l
  simp only [tlen, List.length_cons]
  split <;> omega
theorem jn : ∀ (l : List Nat) (j : Nat), tlen l ≤ j → l.getD j 0 = 0
 | [], j, _ => by simp
 | d :: l, j, h => by
  simp only [tlen] at h
  split at h
  ·rename_i hd
   cases j with
   | zero => simp [hd.1]
   | succ j => simpa using jn l j (by omega)
  ·cases j with
   | zero => omega
   | succ j => simpa using jn l j (by omega)
theorem qo : ∀ l : List Nat, 0 < tlen l → l.getD (tlen l - 1) 0 ≠ 0
 | [], h => by simp [tlen] at h
 | d :: l, h => by
  simp only [tlen] at h ⊢
  split at h
  ·omega
  ·rename_i hd
   rw [if_neg hd]
   rcases Nat.eq_zero_or_pos (tlen l) with h0 | h0
   ·rw [h0]
    simp only [h0, and_true] at hd
    simpa using hd
   ·have := qo l h0
    rw [show tlen l + 1 - 1 = (tlen l - 1) + 1 by omega]
    simpa using this
theorem val_zero {l : List Nat} (h : tlen l = 0) : val l = 0 := by
 induction l with
 | nil => rfl
 | cons d l ih =>
  simp only [tlen] at h
  split at h
  ·rename_i hd; simp [val, hd.1, ih hd.2]
  ·omega
theorem uU {l : List Nat} (h : 0 < tlen l) : 0 < val l := by
 induction l with
 | nil => simp [tlen] at h
 | cons d l ih =>
  simp only [tlen] at h
  split at h
  ·omega
  ·rename_i hd
   simp only [val]
   rcases Nat.eq_zero_or_pos (tlen l) with h0 | h0
   ·simp only [h0, and_true] at hd; omega
   ·have := ih h0
    have : 0 < B * val l := Nat.mul_pos (by decide) this
    omega
theorem zF {l : List Nat} (h : dig l) : qp l = canon (val l) := by
 induction l with
 | nil => simp [qp, tlen, val, z8]
 | cons d l ih =>
  obtain ⟨h1, h2⟩ := qw.1 h
  have ih := ih h2
  simp only [qp] at ih ⊢
  by_cases hz : d = 0 ∧ tlen l = 0
  ·have := val_zero hz.2
   simp [tlen, hz, val, this, z8]
  ·have hne : d + B * val l ≠ 0 := by
    rcases Nat.eq_zero_or_pos (tlen l) with h0 | h0
    ·simp only [h0, and_true] at hz; omega
    ·have := Nat.mul_pos (show 0 < B by decide) (uU h0)
     omega
   simp only [val, tlen, if_neg hz, List.take_succ_cons]
   rw [qA hne, ih]
   have e1 : (d + B * val l) % B = d := by rw [Nat.add_mul_mod_self_left, Nat.mod_eq_of_lt h1]
   have e2 : (d + B * val l) / B = val l := by rw [Nat.add_mul_div_left _ _ (by decide), Nat.div_eq_of_lt h1, Nat.zero_add]
   rw [e1, e2]
theorem qP (x : Nat) : tlen (canon x) = (canon x).length := by
 have := zF (zf x)
 rw [zh] at this
 have h := congrArg List.length this
 simp only [qp, List.length_take] at h
 have := zT (canon x)
 omega
theorem Z7 {l : List Nat} (h : dig l) (ht : tlen l = l.length) : canon (val l) = l := by
 rw [← zF h, qp, ht, List.take_length]
theorem uK : ∀ {l m : List Nat}, dig l → dig m → l.length = m.length → val l = val m → l = m
 | [], [], _, _, _, _ => rfl
 | [], _ :: _, _, _, h, _ => by simp at h
 | _ :: _, [], _, _, h, _ => by simp at h
 | d :: l, e :: m, h1, h2, h3, h4 => by
  obtain ⟨a1, a2⟩ := qw.1 h1
  obtain ⟨b1, b2⟩ := qw.1 h2
  simp only [val] at h4
  have e1 : d = e := by
   have := congrArg (· % B) h4
   simpa only [Nat.add_mul_mod_self_left, Nat.mod_eq_of_lt a1, Nat.mod_eq_of_lt b1] using this
  subst e1
  have e2 : val l = val m := Nat.eq_of_mul_eq_mul_left (show 0 < B by decide) (by omega)
  rw [uK a2 b2 (by simpa using h3) e2]
theorem yg {i : Nat} : ∀ {l m : List Nat}, dig l → l.length = m.length → (∀ j, i < j → l.getD j 0 = m.getD j 0) → l.getD i 0 < m.getD i 0 → val l < val m := by
 induction i with
 | zero =>
  intro l m h1 h3 h4 h5
  cases l with
  | nil => cases m with
   | nil => simp at h5
   | cons _ _ => simp at h3
  | cons d l => cases m with
   | nil => simp at h3
   | cons e m =>
    simp only [List.getD_cons_zero] at h5
    have : l = m := by
     apply List.ext_getElem (by simpa using h3)
     intro j hj hj'
     have := h4 (j + 1) (by omega)
     simpa [hj, hj'] using this
    subst this
    simp only [val]; omega
 | succ i ih =>
  intro l m h1 h3 h4 h5
  cases l with
  | nil => cases m with
   | nil => simp at h5
   | cons _ _ => simp at h3
  | cons d l => cases m with
   | nil => simp at h3
   | cons e m =>
    simp only [List.getD_cons_succ] at h5
    obtain ⟨a1, a2⟩ := qw.1 h1
    have := ih a2 (by simpa using h3) (fun j hj => by simpa using h4 (j + 1) (by omega)) h5
    simp only [val]
    have h6 : B * (val l + 1) ≤ B * val m := Nat.mul_le_mul_left _ this
    rw [Nat.mul_add] at h6
    omega
theorem zM {x y : Nat} (h : (canon x).length < (canon y).length) : x < y := by
 have h1 := zW (zf x)
 rw [zh] at h1
 have h2 : B ^ ((canon y).length - 1) ≤ y := by
  have hl := qP y
  have hpos : 0 < tlen (canon y) := by omega
  have := qo (canon y) hpos
  rw [hl] at this
  generalize hc : canon y = l at *
  have hy : val l = y := by rw [← hc, zh]
  have hsplit : l = l.take (l.length - 1) ++ [l.getD (l.length - 1) 0] := by
   have hlt : l.length - 1 < l.length := by omega
   rw [show l.getD (l.length - 1) 0 = l[l.length - 1] by simp [List.getD, hlt]]
   have := List.take_append_getElem hlt
   rw [this, show l.length - 1 + 1 = l.length by omega, List.take_length]
  rw [← hy]
  conv => rhs; rw [hsplit]
  rw [zA]
  simp only [val, List.length_take, Nat.mul_zero, Nat.add_zero]
  rw [show min (l.length - 1) l.length = l.length - 1 by omega]
  have : B ^ (l.length - 1) * 1 ≤ B ^ (l.length - 1) * l.getD (l.length - 1) 0 := Nat.mul_le_mul_left _ (Nat.pos_of_ne_zero this)
  omega
 have h3 : B ^ (canon x).length ≤ B ^ ((canon y).length - 1) := Nat.pow_le_pow_right (by decide) (by omega)
 omega
theorem zl : ∀ (l : List Nat) (i : Nat), val (l.take (i + 1)) = val (l.take i) + B ^ i * l.getD i 0
 | [], i => by simp [val]
 | d :: l, 0 => by simp [val]
 | d :: l, i + 1 => by
  have := zl l i
  simp only [List.take_succ_cons, val, this, List.getD_cons_succ, Nat.pow_succ]
  rw [Nat.mul_add, Nat.add_assoc, ← Nat.mul_assoc, Nat.mul_comm B (B ^ i)]
theorem zC {l : List Nat} (h : dig l) (i : Nat) : l.getD i 0 < B := by
 by_cases hi : i < l.length
 ·have := h l[i] (List.getElem_mem hi)
  simpa [List.getD, hi] using this
 ·simp [List.getD, List.getElem?_eq_none (Nat.le_of_not_lt hi)]
theorem xL : ∀ (l : List Nat) (p d : Nat), p < l.length → val (l.set p d) + B ^ p * l.getD p 0 = val l + B ^ p * d
 | [], p, d, h => by simp at h
 | e :: l, 0, d, _ => by simp only [List.set_cons_zero, val, List.getD_cons_zero, Nat.pow_zero]; omega
 | e :: l, p + 1, d, h => by
  have := xL l p d (by simpa using h)
  have h2 := congrArg (B * ·) this
  simp only [Nat.mul_add, ← Nat.mul_assoc] at h2
  simp only [List.set_cons_succ, val, List.getD_cons_succ, Nat.pow_succ, Nat.mul_comm (B ^ p) B]
  omega
theorem yD {l : List Nat} (h : dig l) (p : Nat) {d : Nat} (hd : d < B) : dig (l.set p d) := by
 intro e he
 rcases List.mem_or_eq_of_mem_set he with he | rfl
 ·exact h e he
 ·exact hd
theorem jc {l : List Nat} (h : dig l) (n : Nat) : dig (l.take n) := fun e he => h e (List.mem_of_mem_take he)
theorem uP {l : List Nat} (h : dig l) (n : Nat) : dig (l.drop n) := fun e he => h e (List.mem_of_mem_drop he)
theorem Zj {l : List Nat} {n : Nat} (hv : val l < B ^ n) {p : Nat} (hp : n ≤ p) : l.getD p 0 = 0 := by
 rcases Nat.eq_zero_or_pos (l.getD p 0) with h | h
 ·exact h
 exfalso
 have h1 := zl l p
 have h2 : val l = val (l.take (p + 1)) + B ^ (l.take (p + 1)).length * val (l.drop (p + 1)) := by rw [← zA, List.take_append_drop]
 have h3 : B ^ p * 1 ≤ B ^ p * l.getD p 0 := Nat.mul_le_mul_left _ h
 have h4 : B ^ n ≤ B ^ p := Nat.pow_le_pow_right (by decide) hp
 omega
def padN (n x : Nat) : List Nat := canon x ++ List.replicate (n - (canon x).length) 0
theorem je (n : Nat) : val (List.replicate n 0) = 0 := by
 induction n with
 | zero => rfl
 | succ n ih => simp [List.replicate_succ, val, ih]
theorem qD (n : Nat) : dig (List.replicate n 0) := by
 intro d hd
 rw [List.mem_replicate] at hd
 rw [hd.2]; decide
theorem WE {l : List Nat} (h : dig l) : l = padN l.length (val l) := by
 have ht := zF h
 have hl := congrArg List.length ht
 have := zT l
 simp only [qp, List.length_take] at hl
 refine uK h (qJ.2 ⟨zf _, qD _⟩) ?_ ?_
 ·simp only [padN, List.length_append, List.length_replicate]; omega
 ·rw [padN, zA, zh, je]; omega
theorem Wm {l : List Nat} (h : dig l) : tlen l = (canon (val l)).length := by
 have hl := congrArg List.length (zF h)
 have := zT l
 simp only [qp, List.length_take] at hl
 omega
end Go.Nov.Ten
end

/- The groups of a decimal text are the groups of its number. -/
section
namespace Go.Nov
theorem xq (s : ByteArray) (a b : Nat) : (s.extract a b).data.toList = (s.data.toList.take b).drop a := by
 rw [ByteArray.data_extract, Array.toList_extract]
 show List.extract s.data.toList a b = _
 rw [List.extract_eq_drop_take', List.drop_take]
theorem kU {α : Type} {l m : List α} {p : Nat} {z : α} (h : p < l.length) : (l ++ m).getD p z = l.getD p z := by
 simp only [List.getD]; rw [List.getElem?_append_left h]
theorem yN {α : Type} {l m : List α} {p : Nat} {z : α} (h : l.length ≤ p) : (l ++ m).getD p z = m.getD (p - l.length) z := by
 simp only [List.getD]; rw [List.getElem?_append_right h]
theorem Xe {α β : Type} {f : α → β} {l : List α} {p : Nat} {z : α} {y : β} (h : p < l.length) : (l.map f).getD p y = f (l.getD p z) := by
 simp [List.getD, h]
theorem Uq {α : Type} {n p : Nat} {a z : α} (h : p < n) : (List.replicate n a).getD p z = a := by
 simp [List.getD, h]
theorem XZ {α : Type} {l : List α} {p : Nat} {z : α} (h : l.length ≤ p) : l.getD p z = z := by
 simp [List.getD, List.getElem?_eq_none h]
theorem VY {α : Type} {l : List α} {n p : Nat} {z : α} (h : p < n) : (l.take n).getD p z = l.getD p z := by
 simp only [List.getD, List.getElem?_take, if_pos h]
def decs : Nat → Nat → List Nat
 | 0, _ => []
 | k + 1, x => x % 10 :: decs k (x / 10)
theorem xE : ∀ k x, (decs k x).length = k
 | 0, _ => rfl
 | k + 1, x => by simp [decs, xE k]
theorem J6 : ∀ k x, Ten.dig (decs k x)
 | 0, _ => by simp [decs, Ten.dig]
 | k + 1, x => Ten.qw.2 ⟨Nat.mod_lt _ (by decide), J6 k _⟩
theorem J4 : ∀ k x, x < 10 ^ k → Ten.val (decs k x) = x
 | 0, x, h => by simp [decs, Ten.val] at h ⊢; omega
 | k + 1, x, h => by
  simp only [decs, Ten.val]
  rw [J4 k (x / 10) (Nat.div_lt_of_lt_mul (by rw [Nat.pow_succ, Nat.mul_comm] at h; exact h))]
  exact Nat.mod_add_div x 10
theorem y6 : ∀ (a b v w : Nat), v < 10 ^ a → decs (a + b) (v + 10 ^ a * w) = decs a v ++ decs b w
 | 0, b, v, w, h => by simp at h; subst h; simp [decs]
 | a + 1, b, v, w, h => by
  rw [show a + 1 + b = (a + b) + 1 by omega]
  simp only [decs, List.cons_append]
  have e1 : 10 ^ (a + 1) * w = 10 * (10 ^ a * w) := by rw [Nat.pow_succ, Nat.mul_comm (10 ^ a) 10, Nat.mul_assoc]
  have h2 : v / 10 < 10 ^ a := Nat.div_lt_of_lt_mul (by rw [Nat.pow_succ, Nat.mul_comm] at h; exact h)
  rw [e1, Nat.add_mul_mod_self_left, Nat.add_mul_div_left _ _ (by decide), y6 a b (v / 10) w h2]
theorem ZB : ∀ (k x : Nat), decs (k + 1) x = decs k x ++ [x / 10 ^ k % 10]
 | 0, x => by simp [decs]
 | k + 1, x => by
  rw [decs, ZB k (x / 10), decs, List.cons_append]
  congr 3
  rw [Nat.div_div_eq_div_mul, Nat.pow_succ, Nat.mul_comm]
theorem US {k x : Nat} (h : x < 10 ^ k) : decs k x = Ten.padN k x := by
 have := Ten.WE (J6 k x)
 rwa [xE, J4 k x h] at this
def dec (x : Nat) : List Nat := Ten.canon x
def byt (d : Nat) : UInt8 := UInt8.ofNat (48 + d)
theorem yP {k x : Nat} (h : x < 10 ^ k) : (dec x).length ≤ k := by
 rcases Nat.lt_or_ge k (dec x).length with h1 | h1
 ·exfalso
  have hl := Ten.qP x
  have htop := Ten.qo (Ten.canon x) (by simp only [dec] at h1; omega)
  rw [hl] at htop
  have h4 := Ten.zl (Ten.canon x) ((Ten.canon x).length - 1)
  simp only [dec] at h1
  rw [Nat.sub_add_cancel (by omega), List.take_length, Ten.zh] at h4
  have h5 : 10 ^ k ≤ 10 ^ ((Ten.canon x).length - 1) := Nat.pow_le_pow_right (by decide) (by omega)
  have h6 : 10 ^ ((Ten.canon x).length - 1) * 1 ≤ 10 ^ ((Ten.canon x).length - 1) * (Ten.canon x).getD ((Ten.canon x).length - 1) 0 := Nat.mul_le_mul_left _ (by omega)
  have h7 : x = Ten.val ((Ten.canon x).take ((Ten.canon x).length - 1)) + 10 ^ ((Ten.canon x).length - 1) * (Ten.canon x).getD ((Ten.canon x).length - 1) 0 := h4
  omega
 ·exact h1
theorem Ki {x : Nat} (h : 0 < (dec x).length) : (dec x).getD ((dec x).length - 1) 0 ≠ 0 := by
 have hl := Ten.qP x
 have htop := Ten.qo (Ten.canon x) (by simp only [dec] at h; omega)
 rwa [hl] at htop
theorem QE {x : Nat} (h : x ≠ 0) : 0 < (dec x).length := by
 simp only [dec]; rw [Ten.qA h]; simp
theorem dec_lt (x i : Nat) : (dec x).getD i 0 < 10 := Ten.zC (Ten.zf x) i
def txt (x : Nat) : List UInt8 := if x = 0 then [48] else ((dec x).map byt).reverse
end Go.Nov
end

/- Canonical decimal texts. -/
section
namespace Go.Nov
def parse : List UInt8 → Bool × List UInt8
 | [] => (false, [])
 | c :: b => if c = 45 then (true, b) else (false, c :: b)
def sgn (neg : Bool) (b : List UInt8) : List UInt8 := if neg then 45 :: b else b
theorem X7 (s : List UInt8) : sgn (parse s).1 (parse s).2 = s := by
 cases s with
 | nil => rfl
 | cons c b =>
  simp only [parse]
  split
  ·rename_i h; subst h; rfl
  ·rfl
def j4 (neg : Bool) (b : List UInt8) : Bool := !(decide (b = [])) && !(neg && decide (b = [48])) && !(decide (b.getD 0 0 = 48) && decide (1 < b.length)) && b.all isD
def errI (s : List UInt8) : Int := if j4 (parse s).1 (parse s).2 then (if 1000 < (parse s).2.length then 14 else 0) else 12
theorem Kk {b : List UInt8} : b.all isD = true ↔ allD b := by
 simp only [List.all_eq_true, allD, isD, Bool.and_eq_true, decide_eq_true_eq]
theorem QU {neg : Bool} {b : List UInt8} (h : j4 neg b = true) : allD b ∧ b ≠ [] := by
 simp only [j4, Bool.and_eq_true, Bool.not_eq_true', decide_eq_false_iff_not] at h
 exact ⟨Kk.1 h.2, h.1.1.1⟩
theorem v5 {neg : Bool} {b : List UInt8} (h : b.getD 0 0 = 48) (hl : 1 < b.length) : j4 neg b = false := by
 have e : (decide (b.getD 0 0 = 48) && decide (1 < b.length)) = true := by rw [h]; simp [hl]
 unfold j4
 rw [e]
 simp
theorem JA {c d : UInt8} (h : (c.toNat : Int) = (d.toNat : Int)) : c = d := UInt8.toNat_inj.1 (by omega)
theorem Q0 {s : List UInt8} (h : errI s = 0) : ∃ neg b, s = sgn neg b ∧ parse s = (neg, b) ∧ j4 neg b = true ∧ allD b ∧ b ≠ [] ∧ b.length ≤ 1000 := by
 unfold errI at h
 split at h
 ·rename_i hf
  split at h
  ·cases h
  ·rename_i hl
   obtain ⟨h1, h2⟩ := QU hf
   exact ⟨_, _, (X7 s).symm, rfl, hf, h1, h2, by omega⟩
 ·cases h
theorem vA (s : List UInt8) : errI s = 0 ∨ errI s = 12 ∨ errI s = 14 := by
 unfold errI
 split
 ·split <;> simp
 ·simp
def negI (s : List UInt8) : Bool := (parse s).1
def numI (s : List UInt8) : Nat := numD (parse s).2
theorem u7 {s : List UInt8} (h : errI s = 0) : s = sgn (negI s) (parse s).2 ∧ allD (parse s).2 ∧ (parse s).2 ≠ [] ∧ (parse s).2.length ≤ 1000 := by
 obtain ⟨neg, b, h1, h2, h3, h4, h5, h6⟩ := Q0 h
 simp only [negI, h2]
 exact ⟨h1, h4, h5, h6⟩
theorem V1 {a b c k : Nat} (h : k = b * c) : (a ^ b) ^ c = a ^ k := by rw [h, Nat.pow_mul]
theorem kT {s : List UInt8} (h : errI s = 0) : (canon (numI s)).length ≤ 112 := by
 obtain ⟨_, h1, _, h2⟩ := u7 h
 refine zr ?_
 have h3 := x8 h1
 obtain ⟨k, hk⟩ : ∃ k, k = 9 * 112 := ⟨_, rfl⟩
 have h4 : 10 ^ (parse s).2.length ≤ 10 ^ k := Nat.pow_le_pow_right (by decide) (by omega)
 have h5 : B ^ 112 = 10 ^ k := by rw [show B = 10 ^ 9 by decide]; exact V1 hk
 rw [h5]
 exact Nat.lt_of_lt_of_le h3 h4
def zp (s t : List UInt8) : Int := if errI s = 0 then errI t else errI s
theorem zk {s t : List UInt8} : zp s t = 0 ↔ errI s = 0 ∧ errI t = 0 := by
 unfold zp
 split
 ·rename_i h; simp [h]
 ·rename_i h; simp [h]
def wr (neg : Bool) (x : Nat) : List UInt8 × Int := if x = 0 then ([48], 0) else if 1000 < (dec x).length then ([], 14) else (sgn neg (txt x), 0)
def gcdR (s t : List UInt8) : List UInt8 × Int := if zp s t = 0 then wr false (Nat.gcd (numI s) (numI t)) else ([], zp s t)
end Go.Nov
end

/- The reference's decimal digits. -/
section
namespace Go.Nov
def dg (b : List UInt8) : List Nat := (b.map fun c => c.toNat - 48).reverse
theorem Vk (b : List UInt8) : (dg b).length = b.length := by simp [dg]
theorem zdo {b : List UInt8} (h : allD b) : Ten.dig (dg b) := by
 intro d hd
 simp only [dg, List.mem_reverse, List.mem_map] at hd
 obtain ⟨c, hc, rfl⟩ := hd
 have := h c hc
 show c.toNat - 48 < 10
 omega
theorem WJ : ∀ b : List UInt8, Ten.val (dg b) = numD b
 | [] => rfl
 | c :: b => by
  have e : dg (c :: b) = dg b ++ [c.toNat - 48] := by simp [dg]
  rw [e, Ten.zA, WJ b, Vk, show c :: b = [c] ++ b from rfl, wT]
  simp only [Ten.val, numD, List.foldl_cons, List.foldl_nil]
  rw [Nat.mul_comm]; simp [Nat.add_comm]
def cmpN (x y : Nat) : Int := if x < y then -1 else if y < x then 1 else 0
end Go.Nov
end

/- Rationals: how they are written. -/
section
namespace Go.Nov
def z7 (s : List UInt8) : Nat := s.findIdx (· == 47)
def cutR (s : List UInt8) : List UInt8 × List UInt8 × Bool := if z7 s < s.length then (s.take (z7 s), s.drop (z7 s + 1), true) else (s, [], false)
theorem Qr (s : List UInt8) : z7 s ≤ s.length := List.findIdx_le_length
theorem Zb {s : List UInt8} (h : z7 s < s.length) : s.getD (z7 s) 0 = 47 := by
 have := List.findIdx_getElem (w := h)
 simp only [List.getD, List.getElem?_eq_getElem h, Option.getD_some]
 exact beq_iff_eq.1 this
theorem Qx {s : List UInt8} {j : Nat} (h : j < z7 s) : s.getD j 0 ≠ 47 := by
 have hl : j < s.length := Nat.lt_of_lt_of_le h (Qr s)
 have := List.not_of_lt_findIdx h
 simp only [List.getD, List.getElem?_eq_getElem hl, Option.getD_some]
 simpa using this
theorem Yx {s : List UInt8} {i : Nat} (hi : i < s.length) (h : s.getD i 0 = 47) (hb : ∀ j, j < i → s.getD j 0 ≠ 47) : z7 s = i := by
 rcases Nat.lt_trichotomy (z7 s) i with h1 | h1 | h1
 ·exact absurd (Zb (Nat.lt_trans h1 hi)) (hb _ h1)
 ·exact h1
 ·exact absurd h (Qx h1)
theorem WI {s : List UInt8} (hb : ∀ j, j < s.length → s.getD j 0 ≠ 47) : z7 s = s.length := by
 rcases Nat.lt_or_ge (z7 s) s.length with h | h
 ·exact absurd (Zb h) (hb _ h)
 ·exact Nat.le_antisymm (Qr s) h
def errR (s : List UInt8) : Int :=
 if (cutR s).2.2 then
  if errI (cutR s).1 = 12 ∨ errI (cutR s).2.1 = 12 ∨ negI (cutR s).2.1 = true ∨ (cutR s).2.1 = [48] ∨ (cutR s).2.1 = [49] then 12
  else if errI (cutR s).1 ≠ 0 ∨ errI (cutR s).2.1 ≠ 0 then 14
  else if (gcdR (cutR s).1 (cutR s).2.1).1 ≠ [49] then 12 else 0
 else errI s
theorem Yb {s : List UInt8} (h : ¬ z7 s < s.length) : cutR s = (s, [], false) := if_neg h
theorem VK {s : List UInt8} (h : z7 s < s.length) : cutR s = (s.take (z7 s), s.drop (z7 s + 1), true) := if_pos h
theorem Q6 (s : List UInt8) : (cutR s).1.length ≤ s.length ∧ (cutR s).2.1.length ≤ s.length := by
 unfold cutR
 split <;> simp <;> omega
theorem ZO {s : List UInt8} (h : s ≠ []) : negI s = decide (s.getD 0 0 = 45) := by
 cases s with
 | nil => exact absurd rfl h
 | cons c b =>
  simp only [negI, parse]
  split
  ·rename_i hc; subst hc; rfl
  ·rename_i hc; simp [hc]
theorem Wk : errI [] = 12 := rfl
end Go.Nov
end

/- Names. -/
section
namespace Go.Nov
def isL (c : UInt8) : Bool := (97 ≤ c.toNat && c.toNat ≤ 122) || (65 ≤ c.toNat && c.toNat ≤ 90)
def isN (c : UInt8) : Bool := isL c || isD c || c == 95 || c == 45
def qK (s : List UInt8) : Bool := decide (0 < s.length) && decide (s.length ≤ 40) && isL (s.getD 0 0) && s.all isN
theorem UH {p : UInt8 → Bool} {s : List UInt8} (h : ∀ j, j < s.length → p (s.getD j 0) = true) : s.all p = true := by
 rw [List.all_eq_true]
 intro c hc
 obtain ⟨j, hj, rfl⟩ := List.getElem_of_mem hc
 have := h j hj
 simpa [List.getD, hj] using this
theorem QY {p : UInt8 → Bool} {s : List UInt8} {j : Nat} (hj : j < s.length) (h : p (s.getD j 0) = false) : s.all p = false := by
 rw [List.all_eq_false]
 refine ⟨s.getD j 0, by simp [List.getD, hj], by simpa using h⟩
def dayB (d : Int) : Bool := decide (0 ≤ d) && decide (d ≤ 99999)
end Go.Nov
end

/- Loops over functions. -/
section
namespace Go.Sx
variable [Stat]
open Go.RowKit (Below)
def alive : Blk → Prop
 | .box _ => True
 | .arr n _ _ => 0 < n
 | .dead => False
section
variable {O : Nat → Prop} {pin : Nat} {w0 : World} {σ0 : List SE} {w : World} {σ : List SE} {P : Program} {a : Act} {fn : Func}
theorem uq {h : Heap} {own : Nat → Prop} (hp : HRep own w σ h) (hl : ∀ b ∈ h, alive b) {b : Nat} (hb : Mine σ b) : ∃ cs el fr, w.heap[b]? = some (Obj.cells cs el fr) := by
 obtain ⟨i, e, ad, h1, h2, h3⟩ := zy.1 hb
 have hi : i < h.length := by rw [← hp.len]; exact (List.getElem?_eq_some_iff.1 h1).1
 have hbr := hp.blk i e _ h1 (List.getElem?_eq_getElem hi)
 have ha := hl _ (List.getElem_mem hi)
 generalize h[i] = bl at hbr ha
 subst h3
 cases bl with
 | dead => exact ha.elim
 | box cells =>
  obtain ⟨ad', vs, el, g1, _, g3, _⟩ := hbr
  rw [h2] at g1; cases g1
  exact ⟨_, _, _, g3⟩
 | arr n sz g =>
  obtain ⟨_, g⟩ := hbr
  rcases g with g | ⟨ad', cs, el, g1, g2, _⟩
  ·simp only [alive] at ha; omega
  ·rw [h2] at g1; cases g1
   exact ⟨_, _, _, g2⟩
theorem WR {c : Code} {Q : Exit → Act → World → Prop} (n m : Nat) (h : c.wpIn (FM none) n P Q a w) : c.wpIn (FM none) m P Q a w := by
 simp only [FM] at h ⊢
 exact wpIn_wide.2 (wpIn_wide.1 h)
def Uk (c : Code) (tg tp td : Nat) : Bool := match c with
 | .rangeFunc (.tmp g) ps (.region _ ops false) _ => decide (g = tg) && decide (ps.toList = [tp]) && match ops.toList with
  | [o] => decide (o.dst = some td) && o.guard.isNone && match o.op with
   | .assign (.tmp t) => decide (t = tp)
   | _ => false
  | _ => false
 | _ => false
theorem V2 {c : Code} {tg tp td : Nat} (h : Uk c tg tp td = true) : ∃ id o, c = .rangeFunc (.tmp tg) #[tp] (.region id #[o] false) (Q1 c) ∧ o.dst = some td ∧ o.guard = none ∧ o.op = .assign (.tmp tp) := by
 unfold Uk at h
 split at h
 ·rename_i g ps id ops body
  simp only [Bool.and_eq_true, decide_eq_true_eq] at h
  obtain ⟨⟨rfl, h2⟩, h3⟩ := h
  split at h3
  ·rename_i o ho
   simp only [Bool.and_eq_true, decide_eq_true_eq, Option.isNone_iff_eq_none] at h3
   obtain ⟨⟨h4, h5⟩, h6⟩ := h3
   split at h6
   ·rename_i t ht
    simp only [decide_eq_true_eq] at h6
    subst h6
    refine ⟨id, o, ?_, h4, h5, ht⟩
    have e1 : ps = #[t] := by rw [← Array.toList_inj]; exact h2
    have e2 : ops = #[o] := by rw [← Array.toList_inj]; exact ho
    rw [e1, e2]; rfl
   ·cases h6
  ·cases h3
 ·cases h
theorem Vv {M : Option Nat} {td tp id : Nat} {o : Oper} (hd : o.dst = some td) (hgd : o.guard = none) (hop : o.op = .assign (.tmp tp)) {K : Act → World → Prop} {Qe : Exit → Act → World → Prop} (h : K { a with tmps := a.tmps.setIfInBounds td (a.tmps.getD tp undef) } w) :
  (Code.region id #[o] false).wpIn (FM M) 0 P (Exit.then K Qe) a w := by
 refine wpIn_region_list ?_
 simp only [Array.toList]
 refine wpListIn_step fun K' hK' => ?_
 rw [if_pos (by simp [Region.wanted, hgd])]
 refine Zk (by simp [hop]) ?_
 unfold Oper.wp
 have : (execOp a.eval o).run P w = .ok (.value (a.eval (.tmp tp))) w := by
  simp [execOp, hop]
 rw [this]
 have e : a.put o.dst (a.eval (.tmp tp)) = { a with tmps := a.tmps.setIfInBounds td (a.tmps.getD tp undef) } := by rw [hd]; rfl
 show K' (a.put o.dst (a.eval (.tmp tp))) w
 rw [e]
 exact hK' _ _ h
theorem wR.le {pin pinR : Nat} {w' : World} {σ' : List SE} (h : wR pinR w σ w' σ') (hp : pin ≤ pinR) : wR pin w σ w' σ' := fun i e hi he => h i e (Nat.lt_of_lt_of_le hi hp) he
theorem wR.hold {pinR : Nat} {w' : World} {σ' : List SE} (h : wR pinR w σ w' σ') : Hold (List.range' pinR σ.length) w σ w' σ' := by
 intro i e he hi
 have hlt := (List.getElem?_eq_some_iff.1 he).1
 refine h i e ?_ he
 rcases Nat.lt_or_ge i pinR with h1 | h1
 ·exact h1
 ·exact absurd (List.mem_range'_1.2 ⟨h1, by omega⟩) hi
theorem zc.range {α : Type} {Hs : Nat → KV → Heap → Prop} {R : List AV → Heap → Prop} {k : List Item} {c : Code} {kv : KV} {h : Heap} {tg tp td gf : Nat} {cap : List AV} (hc : Uk c tg tp td = true)
  (he : ∀ args w, (callFunc gf args).run P w = .ok (.enter gf args) w) (av : α → AV) (H Hx : List α → Heap) (X S Sp : List α → Prop) (N pinR : Nat)
  (hg : look kv tg = .fn gf [] cap) (htg : tg < fn.ntmps) (htp : tp < fn.ntmps) (hno : ∀ x t b y, av x ≠ .opt t b y) (hle : LeK pin fn.ntmps kv h kv (H [])) (hlow : (pk fn.ntmps kv).all (lowB pinR) = true) (hpin : pin ≤ pinR) (halive : ∀ pre, ∀ b ∈ H pre, alive b) (halivex : ∀ pre, ∀ b ∈ Hx pre, alive b)
  (iter : ∀ w σ a, Mod O pin w0 σ0 w σ (mk fn.ntmps kv (H [])) a → ∀ vb, RepL (Own O σ) w cap σ vb → ∃ (Keep : World → Prop) (ev : α → Value), SeqStopsK Fence.wide 0 P gf vb.toArray (fun x => #[ev x]) (fun W W' => Keep W → Keep W') S Sp N w ∧
   (∀ pre W σ', Mod O pin w0 σ0 W σ' (mk fn.ntmps kv (H pre)) a → Keep W ∧ ∀ x, Rep (Own O σ') W (av x) σ' (ev x)) ∧
   (∀ W l o o', w.heap.size ≤ l → W.heap[l]? = some o → o.isCells = false → Keep W → Keep (W.putObj l o')))
  (round : ∀ l pre x, pre.length < N → ∀ (W : World) (σ1 : List SE), j0 (some l) P (bare fn) O pinR W σ1 (fun d kv' h' => LeK pinR fn.ntmps [] h' [] (H (pre ++ [x]))) (fun _ h' => X (pre ++ [x]) ∧ LeK pinR fn.ntmps [] h' [] (Hx (pre ++ [x]))) [.code (Q1 c), .inLoop] (mk fn.ntmps ((td, av x) :: (tp, av x) :: kv) (H pre)))
  (done : ∀ xs, S xs → zc P fn O pin w0 σ0 Hs R k (mk fn.ntmps kv (H xs)))
  (stop : ∀ pre, Sp pre → X pre → (resX P (mk fn.ntmps kv (Hx pre)) fn.results.toList).holds fun rs => R rs (Hx pre)) :
  zc P fn O pin w0 σ0 Hs R (.code c :: k) (mk fn.ntmps kv h) := by
 obtain ⟨id, o, hco, hod, hog, hop⟩ := V2 hc
 generalize Q1 c = body at *
 subst hco
 clear hc
 intro w σ a hm0
 have hm := hle.le.mod hm0
 clear hm0
 generalize σ.take (mk fn.ntmps kv (H [])).heap.length = σ at hm
 simp only [wpK]
 have hgt := hm.tm tg
 have hev : (mk fn.ntmps kv (H [])).tmps.getD tg .undef = .fn gf [] cap := by simp only [mk]; rw [wP htg]; exact hg
 rw [hev] at hgt
 simp only [TRep, Rep] at hgt
 obtain ⟨va, vb, hval, hva, hvb⟩ := hgt
 have hva : va = [] := by simpa [RepL] using hva
 subst hva
 obtain ⟨Keep, ev, hseq, hkeep, hstab⟩ := iter w σ a hm vb hvb
 have hB : ∀ d ∈ a.defers, ∃ D, d = { target := .collected D, args := #[] } ∧ D < w.heap.size := by
  intro d hd
  obtain ⟨D, h1, _, _, h4⟩ := hm.df.2 d hd
  exact ⟨D, h1, (Array.getElem?_eq_some_iff.1 h4).1⟩
 have hOB : ∀ b, O b → b < w.heap.size := hm.good.old
 have hmarks : ∀ (W : World) (σ' : List SE), Mod O pin w0 σ0 W σ' (mk fn.ntmps kv (H [])) a ∨ True := fun _ _ => .inr trivial
 have turnI : ∀ (Hh : List α → Heap), OwnFrom w.heap.size (fun pre W => ∃ σ', Mod O pin w0 σ0 W σ' (mk fn.ntmps kv (Hh pre)) a) := by
  intro Hh pre W W' row hI hgr hr
  obtain ⟨σ', hM⟩ := hI
  refine ⟨σ', ?_⟩
  have := hM.turn hgr (ds := a.defers) (fun r e => ⟨Nat.le_trans hm.since.ext.size (hr r e).1, (hr r e).2⟩) (hM.df.turn hgr fun r e hmem => by
   obtain ⟨D, h1, h2⟩ := hB _ hmem
   have := (hr r e).1
   simp only [Deferred.mk.injEq, Target.collected.injEq, and_true] at h1
   omega)
  exact this
 have push : ∀ (D : Nat) (Hh : Heap) (W : World) (σ' : List SE), (∀ b ∈ Hh, alive b) → w.heap.size ≤ D → W.heap[D]? = some (.deferred (some [])) → Mod O pin w0 σ0 W σ' (mk fn.ntmps kv Hh) a → Mod O pin w0 σ0 W σ' (mk fn.ntmps kv Hh) { a with defers := { target := .collected D, args := #[] } :: a.defers } := by
  intro D Hh W σ' hal hD hWD hM
  refine ⟨hM.good, hM.hp, hM.size, hM.tm, ⟨List.nodup_cons.2 ⟨fun hmem => ?_, hM.df.1⟩, fun d hd => ?_⟩, hM.since, hM.lim⟩
  ·obtain ⟨D', h1, h2⟩ := hB _ hmem
   simp only [Deferred.mk.injEq, Target.collected.injEq, and_true] at h1
   omega
  ·rcases List.mem_cons.1 hd with rfl | hd
   ·refine ⟨D, rfl, Nat.le_trans hm.since.ext.size hD, ?_, hWD⟩
    rintro (hO | hM')
    ·have := hOB D hO; omega
    ·obtain ⟨cs, el, fr, hcs⟩ := uq hM.hp hal hM'
     rw [hWD] at hcs; cases hcs
   ·exact hM.df.2 d hd
 refine WR 1 0 ?_
 refine wpIn_rangeFunc_ownG (F := Fence.wide) rfl (Nat.le_refl 1) (gf := gf) (lb := vb.toArray) (by simp only [Act.eval]; exact hval) trivial he (encs := fun x => #[ev x]) (Kp := fun W W' => Keep W → Keep W') (S := S) (Sp := Sp) (N := N) (w0 := w) hseq
  (fun h1 h2 h3 => h2 (h1 h3)) (fun W l o o' h1 h2 h3 _ h4 => hstab W l o o' h1 h2 h3 h4) (Below.refl _ _) (fun _ => rfl)
  (fun pre W => ∃ σ', Mod O pin w0 σ0 W σ' (mk fn.ntmps kv (H pre)) a) (fun c pre W => c = .ret ∧ X pre ∧ ∃ σ', Mod O pin w0 σ0 W σ' (mk fn.ntmps kv (Hx pre)) a)
  (turnI H) (fun c pre W W' row hI hgr hr => ⟨hI.1, hI.2.1, turnI Hx pre W W' row hI.2.2 hgr hr⟩) ⟨σ, hm⟩
  (fun x => { tmps := (a.tmps.setIfInBounds tp (ev x)).setIfInBounds td ((a.tmps.setIfInBounds tp (ev x)).getD tp undef), defers := [] }) ?_ ?_ ?_ ?_
 ·
  intro l x W K hK
  refine Vv (M := some l) hod hog hop ?_
  simpa using hK
 ·
  rintro l pre x W ⟨σ1, hM⟩ hlen
  have hsz : a.tmps.size = fn.ntmps := by rw [hM.size]; simp [mk, pk]
  have hM2 : Mod O pinR W σ1 W σ1 (mk fn.ntmps ((td, av x) :: (tp, av x) :: kv) (H pre)) { tmps := (a.tmps.setIfInBounds tp (ev x)).setIfInBounds td ((a.tmps.setIfInBounds tp (ev x)).getD tp undef), defers := [] } := by
   have hx := (hkeep pre W σ1 hM).2 x
   have hxT : ∀ T, TRep (Own O σ1) W σ1 T (av x) (ev x) := by
    intro T
    have := hno x
    generalize av x = y at hx this
    cases y with
    | opt t b z => exact absurd rfl (this t b z)
    | _ => simpa only [TRep] using hx
   refine ⟨hM.good, hM.hp, by simp [mk, pk, hsz], fun t => ?_, Marks.nil _ _ _, Stp.refl _ _ _ _, hM.good.stat⟩
   by_cases ht : t < fn.ntmps
   ·simp only [mk]
    rw [wP ht]
    have htp' : (a.tmps.setIfInBounds tp (ev x)).getD tp undef = ev x := by simp [hsz, htp]
    rw [htp']
    by_cases h1 : td = t
    ·subst h1
     simp only [look, if_true]
     have : ((a.tmps.setIfInBounds tp (ev x)).setIfInBounds td (ev x)).getD td undef = ev x := by simp [hsz, ht]
     rw [this]; exact hxT _
    ·have e1 : ((a.tmps.setIfInBounds tp (ev x)).setIfInBounds td (ev x)).getD t undef = (a.tmps.setIfInBounds tp (ev x)).getD t undef := by
      simp only [Array.getD_eq_getD_getElem?]
      rw [Array.getElem?_setIfInBounds_ne h1]
     rw [e1]
     by_cases h2 : tp = t
     ·subst h2
      simp only [look, if_neg h1, if_true]
      rw [htp']; exact hxT _
     ·simp only [look, if_neg h1, if_neg h2]
      have e2 : (a.tmps.setIfInBounds tp (ev x)).getD t undef = a.tmps.getD t undef := by
       simp only [Array.getD_eq_getD_getElem?]
       rw [Array.getElem?_setIfInBounds_ne h2]
      rw [e2]
      have := hM.tm t
      simp only [mk] at this
      rw [wP ht] at this
      have hl : lowB pinR (look kv t) = true := List.all_eq_true.1 hlow (look kv t) (by simp only [pk, List.mem_map, List.mem_range]; exact ⟨t, ht, rfl⟩)
      generalize look kv t = y at this hl
      cases y with
      | opt u b z => exact absurd rfl (kX hl u b z)
      | _ => simpa only [TRep] using this
   ·have : (mk fn.ntmps ((td, av x) :: (tp, av x) :: kv) (H pre)).tmps.getD t .undef = .undef := by simp [mk, pk, List.getD, ht]
    rw [this]; simp [TRep, Rep]
  have hr := round l pre x hlen W σ1 W σ1 _ hM2
  simp only [wpK] at hr
  have fin : ∀ (Hh : Heap) (st' : St) (W' : World) (τ : List SE) (a' : Act), LeK pinR fn.ntmps [] st'.heap [] Hh → Mod O pinR W σ1 W' τ st' a' → KeepsFrom w.heap.size W W' ∧ ∃ σ', Mod O pin w0 σ0 W' σ' (mk fn.ntmps kv Hh) a := by
   intro Hh st' W' τ a' hL hM'
   have h1 : Mod O pinR W σ1 W' τ (mk fn.ntmps [] st'.heap) { tmps := Array.replicate fn.ntmps undef, defers := [] } := by
    refine ⟨hM'.good, hM'.hp, by simp [mk, pk], fun t => ?_, Marks.nil _ _ _, hM'.since, hM'.lim⟩
    have : (mk fn.ntmps [] st'.heap).tmps.getD t .undef = .undef := by
     simp only [mk, pk, List.getD, List.getElem?_map]
     cases (List.range fn.ntmps)[t]? <;> simp [look]
    rw [this]; simp [TRep, Rep]
   have h2 := hL.le.mod h1
   generalize τ.take (mk fn.ntmps [] Hh).heap.length = τ' at h2
   have hx := h2.since.ext
   refine ⟨⟨hx.size, fun b o hb ho hoc => ?_⟩, τ', ?_⟩
   ·have hlt := (Array.getElem?_eq_some_iff.1 ho).1
    rw [← ho]
    by_cases hO : O b
    ·exact h2.since.kD b hO hlt
    ·refine hx.keep b hlt ?_
     rintro (h3 | h3)
     ·exact hO h3
     ·obtain ⟨cs, el, fr, hcs⟩ := uq hM.hp (halive pre) h3
      rw [ho] at hcs; cases hcs; simp [Obj.isCells] at hoc
   ·refine ⟨h2.good, h2.hp, hM.size, fun t => ?_, hM.df.ext hx, hM.since.trans ⟨hx, h2.since.kD, h2.since.hold.le hpin⟩, hM.lim⟩
    have ht := hM.tm t
    by_cases htn : t < fn.ntmps
    ·simp only [mk] at ht ⊢
     rw [wP htn] at ht ⊢
     have hl : lowB pinR (look kv t) = true := List.all_eq_true.1 hlow (look kv t) (by simp only [pk, List.mem_map, List.mem_range]; exact ⟨t, htn, rfl⟩)
     generalize look kv t = y at ht hl
     cases y with
     | opt u b z => exact absurd rfl (kX hl u b z)
     | _ => simp only [TRep] at ht ⊢; exact q6 hx h2.since.hold.hold _ _ (Zc hl) ht
    ·have : (mk fn.ntmps kv Hh).tmps.getD t .undef = .undef := by simp [mk, pk, List.getD, htn]
     rw [this]; simp [TRep, Rep]
  refine wpIn_mono hr fun e a' W' h => ?_
  cases e with
  | normal =>
   simp only [wpK] at h
   obtain ⟨st, τ, ⟨kv', h', hL, rfl⟩, hM'⟩ := h
   obtain ⟨h1, σ', h2⟩ := fin _ (mk fn.ntmps kv' h') _ _ _ hL hM'
   exact ⟨h1, fun _ => (hkeep _ _ _ h2).1, σ', h2⟩
  | ret =>
   simp only [wpK] at h
   obtain ⟨_, st, τ, ⟨hX, hL⟩, hM'⟩ := h
   obtain ⟨h1, σ', h2⟩ := fin _ st _ _ _ hL hM'
   exact ⟨h1, rfl, hX, σ', h2⟩
  | exit i => simp only [wpK] at h; exact absurd h.1 (by simp)
  | goto t => simp only [wpK] at h; exact absurd h.1 (by simp)
  | panic ch => simp only [wpK] at h; exact absurd h.1 (by simp)
  | outgrown => simp only [wpK] at h; exact absurd h.1 (by simp)
 ·
  rintro D xs W hD hS ⟨σ1, hM⟩ hWD
  exact done xs hS W σ1 _ (push D _ W σ1 (halive xs) hD hWD hM)
 ·rintro D c pre W hD hSp ⟨rfl, hX, σ1, hM⟩ hWD
  refine wpIn_ret (x3 ⟨.inl rfl, mk fn.ntmps kv (Hx pre), σ1, stop pre hSp hX, push D _ W σ1 (halivex pre) hD hWD hM⟩)
def ZU (kv : KV) (t : Nat) (a : AV) : KV := kv.map fun p => if p.1 = t then (t, a) else p
theorem XJ {kv : KV} {t : Nat} {a : AV} : ∀ u, look (ZU kv t a) u = if u = t then (if (kv.any fun p => p.1 == t) then a else .undef) else look kv u := by
 intro u
 induction kv with
 | nil => simp [ZU, look]
 | cons p l ih =>
  obtain ⟨i, x⟩ := p
  simp only [ZU, List.map_cons, List.any_cons] at ih ⊢
  by_cases hit : i = t
  ·subst hit
   simp only [if_true, look, beq_self_eq_true, Bool.true_or]
   by_cases hu : i = u
   ·subst hu; simp
   ·rw [if_neg hu, if_neg (fun h => hu h.symm), ih, if_neg (fun h => hu h.symm), if_neg hu]
  ·have hb : (i == t) = false := by simpa using hit
   simp only [if_neg hit, look, hb, Bool.false_or]
   by_cases hu : i = u
   ·subst hu; simp [hit]
   ·rw [if_neg hu, ih, if_neg hu]
theorem zc.bear {M : Option Nat} {Hs : Nat → KV → Heap → Prop} {R : List AV → Heap → Prop} {k : List Item} {kv : KV} {h : Heap} (t sz : Nat) (g : Nat → Nat → AV) (hnil : look kv t = .nils) (ht : t < fn.ntmps) (hno : (pk fn.ntmps kv).all qL = true)
  (H : j0 M P fn O pin w0 σ0 Hs R k (mk fn.ntmps (ZU kv t (.osl h.length sz 0 0)) (h ++ [.arr 0 sz g]))) : j0 M P fn O pin w0 σ0 Hs R k (mk fn.ntmps kv h) := by
 refine Safe.bear t sz g (by simp only [mk]; rw [wP ht]; exact hnil) hno ?_
 have e : jX (mk fn.ntmps kv h) t sz g = mk fn.ntmps (ZU kv t (.osl h.length sz 0 0)) (h ++ [.arr 0 sz g]) := by
  simp only [jX, mk]
  congr 1
  apply List.ext_getElem (by simp [pk])
  intro u h1 h2
  simp only [pk, List.getElem_map, List.getElem_range, List.getElem_set, XJ]
  by_cases hu : t = u
  ·subst hu
   rw [if_pos rfl, if_pos rfl]
   have : kv.any (fun p => p.1 == t) = true := by
    rcases Bool.eq_false_or_eq_true (kv.any fun p => p.1 == t) with hh | hh
    ·exact hh
    ·exfalso
     have : look kv t = .undef := by
      clear hnil hno H ht h1 h2
      induction kv with
      | nil => rfl
      | cons p l ih =>
       simp only [List.any_cons, Bool.or_eq_false_iff, beq_eq_false_iff_ne] at hh
       simp only [look, if_neg hh.1]
       exact ih hh.2
     rw [hnil] at this; cases this
   rw [this]; rfl
  ·rw [if_neg hu, if_neg (fun hh => hu hh.symm)]
 rw [e]
 exact H
end
end Go.Sx
end

/- Freezing own slices between operations. -/
section
namespace Go.Sx
variable [Stat]
section
variable {O : Nat → Prop} {pin : Nat} {w0 : World} {σ0 : List SE} {w : World} {σ : List SE} {P : Program} {st : St} {a : Act} {fn : Func}
end
end Go.Sx
end

/- Expressions as data. -/
section
namespace Go.Nov
open Go.Sx
inductive Ex where
 | mk (kind : Int) (rat name : List UInt8) (date : Int) (sub : List Ex)
namespace Ex
def kind : Ex → Int | mk k _ _ _ _ => k
def rat : Ex → List UInt8 | mk _ r _ _ _ => r
def name : Ex → List UInt8 | mk _ _ n _ _ => n
def date : Ex → Int | mk _ _ _ d _ => d
def sub : Ex → List Ex | mk _ _ _ _ s => s
mutual
def size : Ex → Nat
 | mk _ _ _ _ s => 1 + zR s
def zR : List Ex → Nat
 | [] => 0
 | x :: l => size x + zR l
end
abbrev nil : Ex := mk 0 [] [] 0 []
theorem size_eq (x : Ex) : x.size = 1 + zR x.sub := by cases x; rw [size]; rfl
theorem size_pos (x : Ex) : 0 < x.size := by rw [size_eq]; omega
theorem uk (s : List Ex) (i : Nat) (h : i < s.length) : zR (s.take (i + 1)) = zR (s.take i) + (s.getD i nil).size := by
 induction s generalizing i with
 | nil => simp at h
 | cons x s ih =>
  cases i with
  | zero => simp [zR]
  | succ i =>
   simp only [List.take_succ_cons, zR, List.getD_cons_succ]
   rw [ih i (by simpa using h)]
   omega
theorem zH {s : List Ex} {i : Nat} (h : i < s.length) : (s.getD i nil).size ≤ zR s := by
 induction s generalizing i with
 | nil => simp at h
 | cons x s ih =>
  cases i with
  | zero => simp [zR]
  | succ i =>
   simp only [List.getD_cons_succ, zR]
   have := ih (i := i) (by simpa using h)
   omega
theorem kF (s : List Ex) (i : Nat) : zR (s.take i) ≤ zR s := by
 induction s generalizing i with
 | nil => simp [zR]
 | cons x s ih =>
  cases i with
  | zero => simp [zR]
  | succ i => simp only [List.take_succ_cons, zR]; have := ih i; omega
theorem qc (s : List Ex) : s.length ≤ zR s := by
 induction s with
 | nil => simp [zR]
 | cons x s ih => simp only [List.length_cons, zR]; have := size_pos x; omega
def cell (k : Int) (r n : List UInt8) (d : Int) (l : Nat) (g : Nat → Nat → AV) : Nat → AV
 | 0 => .int .u8 k
 | 1 => .str r
 | 2 => .str n
 | 3 => .int .i64 d
 | 4 => .sl l 5 g
 | _ => .undef
def deep : Ex → Nat → Nat → AV
 | mk _ _ _ _ s => fun j => (s.map fun x => cell x.kind x.rat x.name x.date x.sub.length (deep x)).getD j fun _ => .undef
def exG (s : List Ex) : Nat → Nat → AV := fun j => cell (s.getD j nil).kind (s.getD j nil).rat (s.getD j nil).name (s.getD j nil).date (s.getD j nil).sub.length (deep (s.getD j nil))
def exS (s : List Ex) : AV := .sl s.length 5 (exG s)
def exA (x : Ex) : AV := .agg [.int .u8 x.kind, .str x.rat, .str x.name, .int .i64 x.date, exS x.sub]
theorem qU (x : Ex) : eqG x.sub.length 5 (deep x) (exG x.sub) := by
 intro j o hj ho
 cases x with
 | mk k r n d s =>
  rw [deep]
  change j < s.length at hj
  show _ = exG s j o
  simp [exG, List.getD, hj]
end Ex
end Go.Nov
end

/- The kinds of expressions that have parts. -/
section
namespace Go.Nov
open Go.Sx
def shpL : List (Int × List Int × Int) := [(4, [1, 1], 1), (5, [1, 1], 1), (6, [1, 1], 1), (7, [1, 1], 1), (8, [1, 1], 1), (9, [2, 1, 1], 1), (11, [1, 1], 2), (12, [1, 1], 2), (13, [2, 2], 2), (14, [2, 2], 2), (15, [2], 2)]
def xo (k : Int) : Option (List Int × Int) := (shpL.find? fun p => p.1 == k).map (·.2)
def qt (k : Int) : Bool := (xo k).isSome
def qf (k : Int) : List Int := ((xo k).getD ([], 0)).1
def jb (k : Int) : Nat := (qf k).length
def qk (k : Int) (j : Nat) : Int := (qf k).getD j 0
def qG (k : Int) : Int := ((xo k).getD ([], 0)).2
end Go.Nov
end

/- What the package-level variables of the seat hold. -/
section
open Go Go.Sx Go.Proofs Go.Nov
namespace Go.Proofs.Tryd
noncomputable instance : Go.Sx.Stat := ⟨fun g =>
 if g = 0 then some (.mp .u8 true 2 [] (fun k => qt k) fun k o => match o with
 | 0 => .sl (jb k) 1 fun j _ => .int .u8 (qk k j)
 | _ => .int .u8 (qG k)) else
 if g = 1 then some (.mp .u8 false 1 [4, 5, 6, 7, 8] (fun k => decide (4 ≤ k ∧ k ≤ 8)) fun k _ =>
  if k = 4 then .fn 128 [] [] else if k = 5 then .fn 129 [] [] else if k = 6 then .fn 130 [] []
  else if k = 7 then .fn 131 [] [] else .fn 132 [] []) else
 none⟩
end Go.Proofs.Tryd
end

/- The integers' magnitudes: what the small functions compute. -/
section
set_option maxRecDepth 100000
open Go Go.Sx Go.Proofs Go.Nov
namespace Go.Proofs.Tryd
attribute [local simp] eqKV eqA eqA0 eqH eqB eqL eqL0
noncomputable def K87 : List Go.Sx.Item := [.code (Tryd.f87.body.getD .skip)]
theorem hmix : Tryd.prog.follows .mixedOrders = true := by decide +kernel
def noG : Nat → Option Ctr := fun _ => none
theorem zD : ∀ g c, noG g = some c → zb Tryd.prog g c := fun _ _ h => by cases h
def zcv : AV → Nat
 | .int _ n => n.toNat
 | _ => 0
def decN (n : Nat) (g : Nat → Nat → AV) : List Nat := (List.range n).map fun j => zcv (g j 0)
theorem kp (k : IntKind) (l : List Nat) : decN l.length (natG k l) = l := by
 apply List.ext_getElem (by simp [decN])
 intro j h1 h2
 simp [decN, natG, zcv, h2]
theorem za (n sz : Nat) (g : Nat → Nat → AV) : eqG n sz g g := fun _ _ _ _ => rfl
theorem xt {k : IntKind} {l : List Nat} {v : Int} (hv : 0 ≤ v) : eqG (l.length + 1) 1 (appG l.length (natG k l) (zg (zj 1 [.int k v]) 0)) (natG k (l ++ [v.toNat])) := by
 intro j o hj ho
 have ho : o = 0 := by omega
 subst ho
 simp only [appG, zg, zj, natG]
 by_cases h : j < l.length
 ·simp [h, List.getElem?_append]
 ·have : j = l.length := by omega
  subst this
  simp [Int.toNat_of_nonneg hv]
theorem wj {k : IntKind} {o : List Nat} {v : Int} {d : Nat} {r : Heap} (hv : v = d) : eqH (.arr (o.length + 1) 1 (appG o.length (natG k o) (zg (zj 1 [.int k v]) 0)) :: r) [.arr (o ++ [d]).length 1 (natG k (o ++ [d]))] := by
 subst hv
 refine ⟨⟨by simp, rfl, ?_⟩, by simp [eqH]⟩
 have := xt (k := k) (l := o) (v := (d : Int)) (by omega)
 simpa using this
theorem wU {k : IntKind} {l : List Nat} {v : Int} {i : Nat} (hv : 0 ≤ v) (hi : i < l.length) : eqG l.length 1 (updG (natG k l) i 0 [.int k v]) (natG k (l.set i v.toNat)) := by
 intro j o hj ho
 have ho : o = 0 := by omega
 subst ho
 simp only [updG, natG, List.length_cons, List.length_nil]
 by_cases h : j = i
 ·subst h
  simp [hj, Int.toNat_of_nonneg hv]
 ·simp only [h, false_and, if_false]
  simp [List.getElem?_set_ne (fun e => h e.symm)]
def magS (x : Nat) : AV := natS .u32 (canon x)
def fits (x : Nat) : Prop := (canon x).length < 1000000
theorem Ju {m off n : Nat} {k : IntKind} {o : List Nat} {r : Heap} : new0 (.arr m 1 (natG k o) :: r) [] (.osl 0 1 off n) := by
 intro _
 simp only [exp0, z5, frz1, jQ, List.getElem?_cons_zero, if_true]
 intro j o' _ _
 rfl
theorem Jp {m off n : Nat} {g : Nat → Nat → AV} {r : Heap} : exp0 (.arr m 1 g :: r) [] (.osl 0 1 off n) = .sl n 1 (zg g off) := by
 simp [exp0, z5, frz1, jQ]
theorem ZI {k : IntKind} {o l : List Nat} (h : qp o = l) : eqA0 (.sl (tlen o) 1 (zg (natG k o) 0)) (natS k l) := by
 subst h
 simp only [eqA0, natS, qp, List.length_take, true_and]
 refine ⟨by have := zT o; omega, ?_⟩
 intro j o' hj ho'
 have : o' = 0 := by omega
 subst this
 simp [zg, natG, List.getElem?_take, hj]
def ctr2 {R : Type} (fresh : Bool) (pre : Nat → Nat → Prop) (post : Nat → Nat → R → Prop) (out : Nat → Nat → R → AV × Heap) : Ctr :=
 ctrP fresh (fun p : Nat × Nat => [magS p.1, magS p.2]) (fun p => pre p.1 p.2) (fun p => post p.1 p.2) (fun p => out p.1 p.2)
theorem xH {R : Type} {fresh : Bool} {pre : Nat → Nat → Prop} {post : Nat → Nat → R → Prop} {out : Nat → Nat → R → AV × Heap} {g : Nat} {fn : Func} {c : Code} (hf : Tryd.prog.funcs[g]? = some fn) (hb : fn.body = some c) (hn : (fn.name == "runtime.NumGoroutine") = false)
  (H : ∀ x y, pre x y → ∀ (O : Nat → Prop) (w0 : World) (Q : AV × Heap → Prop), (∀ r, post x y r → Q (out x y r)) → zc Tryd.prog fn O 0 w0 [] (fun _ _ _ => False) (RetR (ctr2 fresh pre post out) 0 Q) [.code c] (entry fn [magS x, magS y])) : zb Tryd.prog g (ctr2 fresh pre post out) :=
 ze hf hb hn fun p hp => H p.1 p.2 hp
def yr : Ctr where
 fresh := false
 spec args hc := match args, hc with
  | [.sl n 1 g], [] => .ex (fun l : List Nat => dig l ∧ l.length = n ∧ n < 2 ^ 62 ∧ eqG n 1 g (natG .u32 l)) fun l => .all (fun x => x = val l) fun x => .leaf (magS x, [])
  | [.osl 0 1 off n], [.arr m 1 g] => .ex (fun u : List Nat => u.length = m ∧ off + n ≤ m ∧ n < 2 ^ 62 ∧ eqG m 1 g (natG .u32 u) ∧ dig ((u.drop off).take n)) fun u => .all (fun x => x = val ((u.drop off).take n)) fun x => .leaf (.osl 0 1 off (canon x).length, [.arr m 1 g])
  | _, _ => .fail
def S75o (off n : Nat) : KV := [(0, .osl 0 1 off n)]
def S75 (l : List Nat) (n : Nat) : KV := [(0, .sl n 1 (natG .u32 l))]
theorem QA : zb Tryd.prog 87 yr := by
 intro args hc Q hq hfr
 unfold yr at hq
 dsimp only at hq
 split at hq
 ·rename_i n g
  obtain ⟨l, ⟨hdl, hln, hn, hg⟩, _, hq⟩ := hq
  obtain ⟨x, hv⟩ : ∃ x, val l = x := ⟨_, rfl⟩
  replace hq := hq x hv.symm
  have hcan : qp l = canon x := by rw [zF hdl, hv]
  simp only [magS, ← hcan] at hq
  refine qx.le (args' := [natS .u32 l]) (by simp [natS, hln, hg]) (fn_k (fn := Tryd.f87) (c := Tryd.f87.body.getD .skip) rfl rfl rfl hfr fun O w0 σ0 h0 => ?_)
  refine zc.run hmix zD [0] 400 (T := .leaf (.loop (Prod.fst (lps K87 0)) (Prod.snd (lps K87 0)) [(0, .sl l.length 1 (natG .u32 l))] [])) (by kernel_rfl) ?_
  refine zc.loop (ι := {n : Nat // tlen l ≤ n ∧ n ≤ l.length}) (fun x => S75 l x.1) (fun _ => []) (fun x => x.1) ⟨l.length, zT l, Nat.le_refl _⟩ 0 ?_ ?_ (by kernel_rfl)
  ·exact ⟨by simp [S75, eqG], by simp, by kernel_rfl, Nat.zero_le _⟩
  ·rintro ⟨n, h1, h2⟩
   refine zc.run hmix zD [0] 400 (T := .side (decide ((0 : Int) < n) = true → inR .i64 ((↑n : Int) - (1 : Int))) (.side (decide ((0 : Int) < n) = true → (0 : Int) ≤ n - (1 : Int) ∧ (↑n : Int) - (1 : Int) < n) (.ite (bif decide ((0 : Int) < n) then decide ((↑(List.getD l (Int.toNat ((↑n : Int) - (1 : Int))) 0) : Int) = 0) else false) (.side (inR .i64 ((↑n : Int) - (1 : Int))) (.side ((0 : Int) ≤ n - (1 : Int) ∧ (↑n : Int) - (1 : Int) ≤ n) (.leaf (.back 0 [(0, .sl (Int.toNat ((↑n : Int) - (1 : Int)) - 0) 1 (zg (natG .u32 l) 0))] [])))) (.leaf (.ret [.sl n 1 (natG .u32 l)] []))))) (by kernel_rfl) ?_
   simp only [Tree.holds, zd, inR, lo, hi, Bool.cond_eq_ite]
   refine ⟨by simp; omega, fun _ => ⟨by simp; omega, fun _ => ⟨fun h => ?_, fun h => ?_⟩⟩⟩
   ·have hp : 0 < n := by
     rcases Nat.eq_zero_or_pos n with rfl | hp
     ·simp at h
     ·exact hp
    have e : ((n : Int) - 1).toNat = n - 1 := by omega
    have hz : l.getD (n - 1) 0 = 0 := by
     rw [if_pos (by simpa using hp), e] at h
     simpa only [decide_eq_true_eq, Int.natCast_eq_zero] using h
    refine ⟨by omega, fun _ => ⟨by omega, fun _ => ?_⟩⟩
    rw [if_pos trivial]
    refine ⟨⟨n - 1, ?_, by omega⟩, by show n - 1 < n; omega, by simp [S75, eqG, zg, e], by simp, by kernel_rfl, Nat.zero_le _⟩
    rcases Nat.lt_or_ge (n - 1) (tlen l) with h3 | h3
    ·have h4 : tlen l - 1 = n - 1 := by omega
     exact absurd (h4 ▸ hz) (qo l (by omega))
    ·exact h3
   ·have hn : n = tlen l := by
     rcases Nat.lt_or_ge (tlen l) n with h3 | h3
     ·exfalso
      have e : ((n : Int) - 1).toNat = n - 1 := by omega
      rw [if_pos (by simp; omega), e] at h
      have := jn l (n - 1) (by omega)
      simp only [decide_eq_false_iff_not, Int.natCast_eq_zero] at h
      exact h this
     ·omega
    subst hn
    refine ⟨[], rfl, by simp, by simp, by simp [yr], _, [], qi ?_, by simp, rfl, hq⟩
    have := zT l
    simp only [resV, exp2, exp1, exp0, ren0, eqA2, eqA, natS, eqA0, qp, List.length_take, Nat.min_eq_left this, true_and]
    intro j o hj ho
    simp only [natG, List.getD, List.getElem?_take, if_pos hj]
 ·rename_i off n m g
  obtain ⟨l, ⟨hlm, hm, hn, hg, hdl⟩, _, hq⟩ := hq
  obtain ⟨x, hv⟩ : ∃ x, val ((l.drop off).take n) = x := ⟨_, rfl⟩
  replace hq := hq x hv.symm
  subst hlm
  simp only [← hv, ← Wm hdl] at hq
  refine qx.leH (hc' := [.arr l.length 1 (natG .u32 l)]) (by simp [hg]) rfl (fn_k (fn := Tryd.f87) (c := Tryd.f87.body.getD .skip) rfl rfl rfl (by simp [yr]) fun O w0 σ0 h0 => ?_)
  refine zc.run hmix zD [0] 400 (T := .leaf (.loop (Prod.fst (lps K87 0)) (Prod.snd (lps K87 0)) [(0, .osl 0 1 off n)] [.arr l.length 1 (natG .u32 l)])) (by kernel_rfl) ?_
  have hget : ∀ j, j < n → ((l.drop off).take n).getD j 0 = l.getD (off + j) 0 := by
   intro j hj
   simp [List.getElem?_take, hj, List.getElem?_drop]
  have htl : tlen ((l.drop off).take n) ≤ n := by
   have := zT ((l.drop off).take n)
   simp at this; omega
  refine zc.loop (ι := {k : Nat // tlen ((l.drop off).take n) ≤ k ∧ k ≤ n}) (fun x => S75o off x.1) (fun _ => [.arr l.length 1 (natG .u32 l)]) (fun x => x.1) ⟨n, htl, Nat.le_refl _⟩ 0 ?_ ?_ (by kernel_rfl)
  ·exact ⟨by simp [S75o], by simp [eqG], by kernel_rfl, Nat.le_refl _⟩
  ·rintro ⟨k, h1, h2⟩
   refine zc.run hmix zD [0] 400 (T := .side (decide ((0 : Int) < k) = true → inR .i64 ((↑k : Int) - (1 : Int))) (.side (decide ((0 : Int) < k) = true → (0 : Int) ≤ k - (1 : Int) ∧ (↑k : Int) - (1 : Int) < k) (.ite (bif decide ((0 : Int) < k) then decide ((↑(List.getD l (off + Int.toNat ((↑k : Int) - (1 : Int))) 0) : Int) = 0) else false) (.side (inR .i64 ((↑k : Int) - (1 : Int))) (.side ((0 : Int) ≤ k - (1 : Int) ∧ (↑k : Int) - (1 : Int) ≤ k) (.leaf (.back 0 [(0, .osl 0 1 (off + 0) (Int.toNat ((↑k : Int) - (1 : Int)) - 0))] [.arr l.length 1 (natG .u32 l)])))) (.leaf (.ret [.osl 0 1 off k] [.arr l.length 1 (natG .u32 l)]))))) (by kernel_rfl) ?_
   simp only [Tree.holds, zd, inR, lo, hi, Bool.cond_eq_ite]
   refine ⟨by simp; omega, fun _ => ⟨by simp; omega, fun _ => ⟨fun h => ?_, fun h => ?_⟩⟩⟩
   ·have hp : 0 < k := by
     rcases Nat.eq_zero_or_pos k with rfl | hp
     ·simp at h
     ·exact hp
    have e : ((k : Int) - 1).toNat = k - 1 := by omega
    have hz : ((l.drop off).take n).getD (k - 1) 0 = 0 := by
     rw [if_pos (by simpa using hp), e] at h
     rw [hget _ (by omega)]
     simpa only [decide_eq_true_eq, Int.natCast_eq_zero] using h
    refine ⟨by omega, fun _ => ⟨by omega, fun _ => ?_⟩⟩
    rw [if_pos trivial]
    refine ⟨⟨k - 1, ?_, by omega⟩, by show k - 1 < k; omega, by simp [S75o, e], by simp [eqG], by kernel_rfl, Nat.le_refl _⟩
    rcases Nat.lt_or_ge (k - 1) (tlen ((l.drop off).take n)) with h3 | h3
    ·have h4 : tlen ((l.drop off).take n) - 1 = k - 1 := by omega
     exact absurd (h4 ▸ hz) (qo _ (by omega))
    ·exact h3
   ·have hn : k = tlen ((l.drop off).take n) := by
     rcases Nat.lt_or_ge (tlen ((l.drop off).take n)) k with h3 | h3
     ·exfalso
      have e : ((k : Int) - 1).toNat = k - 1 := by omega
      rw [if_pos (by simp; omega), e] at h
      have := jn ((l.drop off).take n) (k - 1) (by omega)
      rw [hget _ (by omega)] at this
      simp only [decide_eq_false_iff_not, Int.natCast_eq_zero] at h
      exact h this
     ·omega
    subst hn
    exact ⟨[0], rfl, by simp, by simp, by simp [yr], _, [.arr l.length 1 g], qi (by simp [resV, exp2, exp1, exp0, z5, eqA2]), ⟨⟨rfl, rfl, fun j o hj ho => (hg j o hj ho).symm⟩, trivial⟩, rfl, hq⟩
 ·exact hq.elim
end Go.Proofs.Tryd
end

/- The integers' magnitudes: comparison, subtraction, short division. -/
section
set_option maxRecDepth 100000
open Go Go.Sx Go.Proofs Go.Nov
namespace Go.Proofs.Tryd
attribute [local simp] eqKV eqA eqA0 eqH eqB eqL eqL0
noncomputable def K85 : List Go.Sx.Item := [.code (Tryd.f85.body.getD .skip)]
noncomputable def K90 : List Go.Sx.Item := [.code (Tryd.f90.body.getD .skip)]
def cmp3 (x y : Nat) : Int := if x < y then -1 else if y < x then 1 else 0
def xA : Ctr := ctr2 true (fun x y => fits x ∧ fits y) (fun x y r => r = cmp3 x y) (fun _ _ r => (.int .i64 r, []))
def S73 (x y k : Nat) : KV := [(0, magS x), (1, magS y), (5, .int .i64 ((k : Int) - 1))]
theorem kV : zb Tryd.prog 85 xA := by
 refine xH (fn := Tryd.f85) (c := Tryd.f85.body.getD .skip) rfl rfl rfl fun x y hp O w0 Q hq => ?_
 replace hq := hq _ rfl
 obtain ⟨hx, hy⟩ := hp
 simp only [fits] at hx hy
 refine zc.run hmix zD [0, 1, 5] 400 (T := .ite (!decide ((↑(canon x).length : Int) = (↑(canon y).length : Int))) (.side (inR .i64 ((↑(canon x).length : Int) - (↑(canon y).length : Int))) (.leaf (.ret [.int .i64 (max (-1 : Int) (min (1 : Int) ((↑(canon x).length : Int) - (↑(canon y).length : Int))))] []))) (.side (inR .i64 ((↑(canon x).length : Int) - (1 : Int))) (.leaf (.loop (Prod.fst (lps K85 0)) (Prod.snd (lps K85 0)) [(0, .sl (canon x).length 1 (natG .u32 (canon x))), (1, .sl (canon y).length 1 (natG .u32 (canon y))), (5, .int .i64 ((↑(canon x).length : Int) - (1 : Int)))] [])))) (by kernel_rfl) ?_
 simp only [Tree.holds, zd, inR, lo, hi, Bool.cond_eq_ite]
 refine ⟨fun h => ⟨by omega, fun _ => RetR.scal hq rfl ?_⟩, fun h => ⟨by omega, fun _ => ?_⟩⟩
 ·simp only [resV, cmp3]
  congr 1
  have hne : (canon x).length ≠ (canon y).length := by
   simp only [Bool.not_eq_true', decide_eq_false_iff_not] at h
   omega
  rcases Nat.lt_or_gt_of_ne hne with h1 | h1
  ·have := zM h1
   rw [if_pos this]; omega
  ·have := zM h1
   rw [if_neg (by omega), if_pos this]; omega
 ·have hlen : (canon x).length = (canon y).length := by
   simp only [Bool.not_eq_false', decide_eq_true_eq] at h
   omega
  refine zc.loop (ι := {k : Nat // k ≤ (canon x).length ∧ ∀ j, k ≤ j → (canon x).getD j 0 = (canon y).getD j 0}) (fun k => S73 x y k.1) (fun _ => []) (fun k => k.1) ⟨(canon x).length, Nat.le_refl _, fun j hj => by simp [hj, hlen ▸ hj]⟩ 0 ?_ ?_ (by kernel_rfl)
  ·exact ⟨by simp [S73, magS, natS, za], by simp, by kernel_rfl, Nat.zero_le _⟩
  ·rintro ⟨k, h1, h2⟩
   refine zc.run hmix zD [0, 1, 5] 400 (T := .ite (decide ((0 : Int) ≤ k - (1 : Int))) (.side ((0 : Int) ≤ k - (1 : Int) ∧ (↑k : Int) - (1 : Int) < (↑(canon x).length : Int)) (.side ((0 : Int) ≤ k - (1 : Int) ∧ (↑k : Int) - (1 : Int) < (↑(canon y).length : Int)) (.ite (!decide ((↑(List.getD (canon x) (Int.toNat ((↑k : Int) - (1 : Int))) 0) : Int) = (↑(List.getD (canon y) (Int.toNat ((↑k : Int) - (1 : Int))) 0) : Int))) (.side ((0 : Int) ≤ k - (1 : Int) ∧ (↑k : Int) - (1 : Int) < (↑(canon x).length : Int)) (.side ((0 : Int) ≤ k - (1 : Int) ∧ (↑k : Int) - (1 : Int) < (↑(canon y).length : Int)) (.ite (decide ((↑(List.getD (canon x) (Int.toNat ((↑k : Int) - (1 : Int))) 0) : Int) < (↑(List.getD (canon y) (Int.toNat ((↑k : Int) - (1 : Int))) 0) : Int))) (.leaf (.ret [.int .i64 (-1 : Int)] [])) (.leaf (.ret [.int .i64 1] []))))) (.side (inR .i64 ((↑k : Int) - (1 : Int) - (1 : Int))) (.leaf (.back 0 [(0, .sl (canon x).length 1 (natG .u32 (canon x))), (1, .sl (canon y).length 1 (natG .u32 (canon y))), (5, .int .i64 ((↑k : Int) - (1 : Int) - (1 : Int)))] [])))))) (.leaf (.ret [.int .i64 0] []))) (by kernel_rfl) ?_
   simp only [Tree.holds, zd, inR, lo, hi, Bool.cond_eq_ite]
   have e : ((k : Int) - 1).toNat = k - 1 := by omega
   rw [e]
   refine ⟨fun hk => ?_, fun hk => RetR.scal hq rfl ?_⟩
   ·have hk : 0 < k := by simp at hk; omega
    refine ⟨by omega, fun _ => ⟨by omega, fun _ => ⟨fun hne => ⟨by omega, fun _ => ⟨by omega, fun _ => ⟨fun hlt => RetR.scal hq rfl ?_, fun hlt => RetR.scal hq rfl ?_⟩⟩⟩, fun heq => ⟨by omega, fun _ => ?_⟩⟩⟩⟩
    ·have := yg (zf x) hlen (i := k - 1) (fun j hj => h2 j (by omega)) (by simpa using hlt)
     rw [zh, zh] at this
     simp [resV, cmp3, this]
    ·have hgt : (canon y).getD (k - 1) 0 < (canon x).getD (k - 1) 0 := by
      simp only [Bool.not_eq_true', decide_eq_false_iff_not] at hne hlt
      omega
     have := yg (zf y) hlen.symm (i := k - 1) (fun j hj => (h2 j (by omega)).symm) hgt
     rw [zh, zh] at this
     simp only [resV, cmp3]
     rw [if_neg (by omega), if_pos this]
    ·rw [if_pos trivial]
     refine ⟨⟨k - 1, by omega, fun j hj => ?_⟩, by show k - 1 < k; omega, by simp [S73, magS, natS, za]; omega, by simp, by kernel_rfl, Nat.zero_le _⟩
     rcases Nat.lt_or_ge j k with hj2 | hj2
     ·have : j = k - 1 := by omega
      subst this
      simp only [Bool.not_eq_false', decide_eq_true_eq] at heq
      omega
     ·exact h2 j hj2
   ·have hk : k = 0 := by simp at hk; omega
    subst hk
    have : canon x = canon y := by
     apply List.ext_getElem hlen
     intro j hj hj'
     have := h2 j (Nat.zero_le _)
     simpa [hj, hj'] using this
    have : x = y := by rw [← zh x, this, zh]
    subst this
    simp [resV, cmp3]
noncomputable def G1 : Nat → Option Ctr := fun f => if f = 87 then some (yr) else none
theorem xk : ∀ g c, G1 g = some c → zb Tryd.prog g c := okIf QA (zn)
def QQ : Ctr := ctr2 true (fun x y => fits x ∧ y ≤ x) (fun x y d => d = x - y) (fun _ _ d => (magS d, []))
def S78 (x y : Nat) (o : List Nat) (c i : Nat) : KV := [(0, magS x), (1, magS y), (5, .osl 0 1 0 o.length), (6, .int .u32 (c : Int)), (13, magS x), (14, .int .i64 ((canon x).length : Int)), (15, .int .i64 (i : Int))]
structure I78 (x y : Nat) where
 o : List Nat
 c : Nat
 i : Nat
 len : o.length = i
 le : i ≤ (canon x).length
 dg : dig o
 c1 : c ≤ 1
 eq : val ((canon x).take i) + B ^ i * c = val o + val ((canon y).take i)
theorem QL {x y : Nat} (h : x ≤ y) : (canon x).length ≤ (canon y).length := by
 rcases Nat.lt_or_ge (canon y).length (canon x).length with h1 | h1
 ·have := zM h1; omega
 ·exact h1
theorem zdz {x y o c i d c' : Nat} {l m : List Nat} (h : val (l.take i) + B ^ i * c = o + val (m.take i)) (he : l.getD i 0 + B * c' = d + m.getD i 0 + c) : val (l.take (i + 1)) + B ^ (i + 1) * c' = o + B ^ i * d + val (m.take (i + 1)) := by
 rw [zl, zl, Nat.pow_succ]
 have := congrArg (B ^ i * ·) he
 simp only [Nat.mul_add] at this
 rw [Nat.mul_assoc]
 omega
theorem uZ (l : List Nat) (d : Nat) : val (l ++ [d]) = val l + B ^ l.length * d := by rw [zA]; simp [val]
theorem uc : zb Tryd.prog 90 QQ := by
 refine xH (fn := Tryd.f90) (c := Tryd.f90.body.getD .skip) rfl rfl rfl fun x y hp O w0 Q hq => ?_
 replace hq := hq _ rfl
 obtain ⟨hx, hyx⟩ := hp
 simp only [fits] at hx hyx
 have hlen := QL hyx
 refine zc.run hmix xk [0, 1, 5, 6, 13, 14, 15] 400 (T := .side ((0 : Int) ≤ 0 ∧ (0 : Int) ≤ (↑(canon x).length : Int) ∧ inR .i64 (↑(canon x).length : Int) ∧ Int.toNat (↑(canon x).length : Int) * 4 ≤ 140737488355328) (.leaf (.loop (Prod.fst (lps K90 0)) (Prod.snd (lps K90 0)) [(0, .sl (canon x).length 1 (natG .u32 (canon x))), (1, .sl (canon y).length 1 (natG .u32 (canon y))), (5, .osl 0 1 0 0), (6, .int .u32 0), (13, .sl (canon x).length 1 (natG .u32 (canon x))), (14, .int .i64 (↑(canon x).length : Int)), (15, .int .i64 0)] [.arr 0 1 (ke [.int .u32 0])]))) (by kernel_rfl) ?_
 simp only [Tree.holds, zd, inR, lo, hi]
 refine ⟨by omega, fun _ => ?_⟩
 refine zc.loop (ι := I78 x y) (fun s => S78 x y s.o s.c s.i) (fun s => [.arr s.o.length 1 (natG .u32 s.o)]) (fun s => (canon x).length - s.i) ⟨[], 0, 0, rfl, Nat.zero_le _, by simp [dig], by omega, by simp [val]⟩ 0 ?_ ?_ (by kernel_rfl)
 ·exact ⟨by simp [S78, magS, natS, za], by simp [eqG], by kernel_rfl, Nat.zero_le _⟩
 ·rintro ⟨o, c, i, ho, hle, hd, hc, he⟩
  subst ho
  have hB : B = 1000000000 := rfl
  refine zc.run hmix xk [0, 1, 5, 6, 13, 14, 15] 400 (T := .ite (decide ((↑o.length : Int) < (↑(canon x).length : Int))) (.side ((0 : Int) ≤ o.length ∧ (↑o.length : Int) < (↑(canon x).length : Int)) (.ite (decide ((↑o.length : Int) < (↑(canon y).length : Int))) (.side ((0 : Int) ≤ o.length ∧ (↑o.length : Int) < (↑(canon y).length : Int)) (.side (inR .u32 ((↑c : Int) + (↑(List.getD (canon y) (Int.toNat (↑o.length : Int)) 0) : Int))) (.ite (decide ((↑(List.getD (canon x) (Int.toNat (↑o.length : Int)) 0) : Int) < c + (↑(List.getD (canon y) (Int.toNat (↑o.length : Int)) 0) : Int))) (.side (inR .u32 ((↑(List.getD (canon x) (Int.toNat (↑o.length : Int)) 0) : Int) + (1000000000 : Int))) (.side (inR .u32 ((↑(List.getD (canon x) (Int.toNat (↑o.length : Int)) 0) : Int) + (1000000000 : Int) - ((↑c : Int) + (↑(List.getD (canon y) (Int.toNat (↑o.length : Int)) 0) : Int)))) (.side (0 = 0 ∧ o.length ≤ o.length ∧ (o.length + 1) * 4 ≤ 140737488355328) (.side (inR .i64 ((↑o.length : Int) + (1 : Int))) (.leaf (.back 0 [(0, .sl (canon x).length 1 (natG .u32 (canon x))), (1, .sl (canon y).length 1 (natG .u32 (canon y))), (5, .osl 0 1 0 (o.length + 1)), (6, .int .u32 1), (13, .sl (canon x).length 1 (natG .u32 (canon x))), (14, .int .i64 (↑(canon x).length : Int)), (15, .int .i64 ((↑o.length : Int) + (1 : Int)))] [.arr (o.length + 1) 1 (appG o.length (natG .u32 o) (zg (zj 1 [.int .u32 ((↑(List.getD (canon x) (Int.toNat (↑o.length : Int)) 0) : Int) + (1000000000 : Int) - ((↑c : Int) + (↑(List.getD (canon y) (Int.toNat (↑o.length : Int)) 0) : Int)))]) 0)), .arr 1 1 (zj 1 [.int .u32 ((↑(List.getD (canon x) (Int.toNat (↑o.length : Int)) 0) : Int) + (1000000000 : Int) - ((↑c : Int) + (↑(List.getD (canon y) (Int.toNat (↑o.length : Int)) 0) : Int)))])])))))) (.side (inR .u32 ((↑(List.getD (canon x) (Int.toNat (↑o.length : Int)) 0) : Int) - ((↑c : Int) + (↑(List.getD (canon y) (Int.toNat (↑o.length : Int)) 0) : Int)))) (.side (0 = 0 ∧ o.length ≤ o.length ∧ (o.length + 1) * 4 ≤ 140737488355328) (.side (inR .i64 ((↑o.length : Int) + (1 : Int))) (.leaf (.back 0 [(0, .sl (canon x).length 1 (natG .u32 (canon x))), (1, .sl (canon y).length 1 (natG .u32 (canon y))), (5, .osl 0 1 0 (o.length + 1)), (6, .int .u32 0), (13, .sl (canon x).length 1 (natG .u32 (canon x))), (14, .int .i64 (↑(canon x).length : Int)), (15, .int .i64 ((↑o.length : Int) + (1 : Int)))] [.arr (o.length + 1) 1 (appG o.length (natG .u32 o) (zg (zj 1 [.int .u32 ((↑(List.getD (canon x) (Int.toNat (↑o.length : Int)) 0) : Int) - ((↑c : Int) + (↑(List.getD (canon y) (Int.toNat (↑o.length : Int)) 0) : Int)))]) 0)), .arr 1 1 (zj 1 [.int .u32 ((↑(List.getD (canon x) (Int.toNat (↑o.length : Int)) 0) : Int) - ((↑c : Int) + (↑(List.getD (canon y) (Int.toNat (↑o.length : Int)) 0) : Int)))])])))))))) (.ite (decide ((↑(List.getD (canon x) (Int.toNat (↑o.length : Int)) 0) : Int) < c)) (.side (inR .u32 ((↑(List.getD (canon x) (Int.toNat (↑o.length : Int)) 0) : Int) + (1000000000 : Int))) (.side (inR .u32 ((↑(List.getD (canon x) (Int.toNat (↑o.length : Int)) 0) : Int) + (1000000000 : Int) - c)) (.side (0 = 0 ∧ o.length ≤ o.length ∧ (o.length + 1) * 4 ≤ 140737488355328) (.side (inR .i64 ((↑o.length : Int) + (1 : Int))) (.leaf (.back 0 [(0, .sl (canon x).length 1 (natG .u32 (canon x))), (1, .sl (canon y).length 1 (natG .u32 (canon y))), (5, .osl 0 1 0 (o.length + 1)), (6, .int .u32 1), (13, .sl (canon x).length 1 (natG .u32 (canon x))), (14, .int .i64 (↑(canon x).length : Int)), (15, .int .i64 ((↑o.length : Int) + (1 : Int)))] [.arr (o.length + 1) 1 (appG o.length (natG .u32 o) (zg (zj 1 [.int .u32 ((↑(List.getD (canon x) (Int.toNat (↑o.length : Int)) 0) : Int) + (1000000000 : Int) - c)]) 0)), .arr 1 1 (zj 1 [.int .u32 ((↑(List.getD (canon x) (Int.toNat (↑o.length : Int)) 0) : Int) + (1000000000 : Int) - c)])])))))) (.side (inR .u32 ((↑(List.getD (canon x) (Int.toNat (↑o.length : Int)) 0) : Int) - c)) (.side (0 = 0 ∧ o.length ≤ o.length ∧ (o.length + 1) * 4 ≤ 140737488355328) (.side (inR .i64 ((↑o.length : Int) + (1 : Int))) (.leaf (.back 0 [(0, .sl (canon x).length 1 (natG .u32 (canon x))), (1, .sl (canon y).length 1 (natG .u32 (canon y))), (5, .osl 0 1 0 (o.length + 1)), (6, .int .u32 0), (13, .sl (canon x).length 1 (natG .u32 (canon x))), (14, .int .i64 (↑(canon x).length : Int)), (15, .int .i64 ((↑o.length : Int) + (1 : Int)))] [.arr (o.length + 1) 1 (appG o.length (natG .u32 o) (zg (zj 1 [.int .u32 ((↑(List.getD (canon x) (Int.toNat (↑o.length : Int)) 0) : Int) - c)]) 0)), .arr 1 1 (zj 1 [.int .u32 ((↑(List.getD (canon x) (Int.toNat (↑o.length : Int)) 0) : Int) - c)])])))))))) (.ex (fun (u : List Nat) => u.length = o.length ∧ 0 + o.length ≤ o.length ∧ o.length < 4611686018427387904 ∧ eqG o.length 1 (natG .u32 o) (natG .u32 u) ∧ dig (List.take o.length (List.drop 0 u))) fun n => .all (fun (x : Nat) => x = val (List.take o.length (List.drop 0 n))) fun n => .leaf (.ret [.osl 0 1 0 (canon n).length] [.arr o.length 1 (natG .u32 o)]))) (by kernel_rfl) ?_
  simp only [Tree.holds, zd, inR, lo, hi, Int.toNat_natCast, kp]
  have ha := zC (zf x) o.length
  have hb := zC (zf y) o.length
  have hnext : ∀ d c' : Nat, d < B → c' ≤ 1 → o.length < (canon x).length → (canon x).getD o.length 0 + B * c' = d + (canon y).getD o.length 0 + c →
    ∃ s : I78 x y, s.o = o ++ [d] ∧ s.c = c' ∧ s.i = o.length + 1 := fun d c' h1 h2 h3 h4 =>
   ⟨⟨o ++ [d], c', o.length + 1, by simp, h3, qJ.2 ⟨hd, by simp [dig, h1]⟩, h2, by rw [uZ]; exact zdz (x := x) (y := y) he h4⟩, rfl, rfl, rfl⟩
  refine ⟨fun hlt => ?_, fun hge => ?_⟩
  ·have hlt : o.length < (canon x).length := by simp at hlt; omega
   refine ⟨by omega, fun _ => ⟨fun hb2 => ⟨by simp at hb2; omega, fun _ => ⟨by omega, fun _ => ⟨fun hlt2 => ?_, fun hge2 => ?_⟩⟩⟩, fun hb2 => ⟨fun hlt2 => ?_, fun hge2 => ?_⟩⟩⟩
   ·simp only [decide_eq_true_eq] at hlt2
    refine ⟨by omega, fun _ => ⟨by omega, fun _ => ⟨⟨trivial, by omega, by omega⟩, fun _ => ⟨by omega, fun _ => ?_⟩⟩⟩⟩
    obtain ⟨s, h1, h2, h3⟩ := hnext ((canon x).getD o.length 0 + B - (c + (canon y).getD o.length 0)) 1 (by omega) (by omega) hlt (by omega)
    rw [if_pos trivial]
    refine ⟨s, by show _ - s.i < _; omega, by simp [S78, h1, h2, h3, magS, natS, za], by rw [h1]; exact wj (by omega), by kernel_rfl, Nat.zero_le _⟩
   ·simp only [decide_eq_false_iff_not] at hge2
    refine ⟨by omega, fun _ => ⟨⟨trivial, by omega, by omega⟩, fun _ => ⟨by omega, fun _ => ?_⟩⟩⟩
    obtain ⟨s, h1, h2, h3⟩ := hnext ((canon x).getD o.length 0 - (c + (canon y).getD o.length 0)) 0 (by omega) (by omega) hlt (by omega)
    rw [if_pos trivial]
    refine ⟨s, by show _ - s.i < _; omega, by simp [S78, h1, h2, h3, magS, natS, za], by rw [h1]; exact wj (by omega), by kernel_rfl, Nat.zero_le _⟩
   ·simp only [decide_eq_true_eq, decide_eq_false_iff_not] at hlt2 hb2
    have hb0 : (canon y).getD o.length 0 = 0 := by simp [List.getD, List.getElem?_eq_none (show (canon y).length ≤ o.length by omega)]
    refine ⟨by omega, fun _ => ⟨by omega, fun _ => ⟨⟨trivial, by omega, by omega⟩, fun _ => ⟨by omega, fun _ => ?_⟩⟩⟩⟩
    obtain ⟨s, h1, h2, h3⟩ := hnext ((canon x).getD o.length 0 + B - c) 1 (by omega) (by omega) hlt (by omega)
    rw [if_pos trivial]
    refine ⟨s, by show _ - s.i < _; omega, by simp [S78, h1, h2, h3, magS, natS, za], by rw [h1]; exact wj (by omega), by kernel_rfl, Nat.zero_le _⟩
   ·simp only [decide_eq_false_iff_not] at hge2 hb2
    have hb0 : (canon y).getD o.length 0 = 0 := by simp [List.getD, List.getElem?_eq_none (show (canon y).length ≤ o.length by omega)]
    refine ⟨by omega, fun _ => ⟨⟨trivial, by omega, by omega⟩, fun _ => ⟨by omega, fun _ => ?_⟩⟩⟩
    obtain ⟨s, h1, h2, h3⟩ := hnext ((canon x).getD o.length 0 - c) 0 (by omega) (by omega) hlt (by omega)
    rw [if_pos trivial]
    refine ⟨s, by show _ - s.i < _; omega, by simp [S78, h1, h2, h3, magS, natS, za], by rw [h1]; exact wj (by omega), by kernel_rfl, Nat.zero_le _⟩
  ·have hge : o.length = (canon x).length := by simp at hge; omega
   have hv : val o = x - y := by
    have h1 := zW hd
    rw [hge, List.take_length, List.take_of_length_le hlen, zh, zh] at he
    have : c = 0 := by
     rcases Nat.lt_or_ge c 1 with h | h
     ·omega
     ·have : c = 1 := by omega
      subst this
      rw [hge] at h1
      omega
    subst this
    omega
   refine ⟨o, ⟨rfl, by omega, by omega, za _ _ _, by simpa using hd⟩, ⟨_, rfl⟩, ?_⟩
   intro X hX
   have hX : X = x - y := by simpa [hv] using hX
   subst hX
   have htr : qp o = canon (x - y) := by rw [zF hd, hv]
   have htl : (canon (x - y)).length = tlen o := by rw [← htr, qp, List.length_take]; have := zT o; omega
   rw [htl]
   refine ⟨[], rfl, by simp, by simp, fun _ => ⟨Ju, by simp⟩, magS (x - y), [], qi ?_, by simp [expH], rfl, hq⟩
   simp only [resV, exp2, exp1, Jp]
   exact ZI htr
end Go.Proofs.Tryd
end

/- The integers' magnitudes: short division, the guess of a digit, products. -/
section
set_option maxRecDepth 100000
open Go Go.Sx Go.Proofs Go.Nov
namespace Go.Proofs.Tryd
attribute [local simp] eqKV eqA eqA0 eqH eqB eqL eqL0
noncomputable def K86 : List Go.Sx.Item := [.code (Tryd.f86.body.getD .skip)]
noncomputable def K89 : List Go.Sx.Item := [.code (Tryd.f89.body.getD .skip)]
theorem Kl (m n : Nat) : Int.tdiv (m : Int) (n : Int) = ((m / n : Nat) : Int) := rfl
theorem VJ (m n : Nat) : Int.tmod (m : Int) (n : Int) = ((m % n : Nat) : Int) := rfl
theorem xV (k : IntKind) (n : Nat) : eqG n 1 (ke [.int k 0]) (natG k (List.replicate n 0)) := by
 intro j o hj ho
 have : o = 0 := by omega
 subst this
 simp [ke, natG, hj]
theorem Wn {l : List Nat} {k : Nat} (hk : k < l.length) : l.drop k = l.getD k 0 :: l.drop (k + 1) := by
 rw [List.drop_eq_getElem_cons hk]
 simp [List.getD, hk]
def XG : Ctr := ctrP true (fun p : Nat × Nat => [magS p.1, .int .u32 (p.2 : Int)]) (fun p => fits p.1 ∧ 0 < p.2 ∧ p.2 < B) (fun p (r : Nat × Nat) => r = (p.1 / p.2, p.1 % p.2)) (fun _ r => (.tup [magS r.1, .int .u32 (r.2 : Int)], []))
def S74 (x d : Nat) (o : List Nat) (r k : Nat) : KV := [(0, magS x), (1, .int .u32 (d : Int)), (4, .osl 0 1 0 o.length), (6, .int .u64 (r : Int)), (7, .int .i64 ((k : Int) - 1))]
structure I74 (x d : Nat) where
 o : List Nat
 r : Nat
 k : Nat
 len : o.length = (canon x).length
 le : k ≤ (canon x).length
 rd : r < d
 dg : dig (o.drop k)
 eq : val ((canon x).drop k) = d * val (o.drop k) + r
theorem XQ : zb Tryd.prog 86 XG := by
 refine ze (fn := Tryd.f86) (c := Tryd.f86.body.getD .skip) rfl rfl rfl fun p hp O w0 Q hq => ?_
 replace hq := hq _ rfl
 obtain ⟨x, d⟩ := p
 obtain ⟨hx, hd0, hdB⟩ := hp
 simp only [fits] at hx hd0 hdB hq
 have hB : B = 1000000000 := rfl
 refine zc.run hmix xk [0, 1, 4, 6, 7] 400 (T := .side ((0 : Int) ≤ (↑(canon x).length : Int) ∧ (↑(canon x).length : Int) ≤ (↑(canon x).length : Int) ∧ inR .i64 (↑(canon x).length : Int) ∧ Int.toNat (↑(canon x).length : Int) * 4 ≤ 140737488355328) (.side (inR .i64 ((↑(canon x).length : Int) - (1 : Int))) (.leaf (.loop (Prod.fst (lps K86 0)) (Prod.snd (lps K86 0)) [(0, .sl (canon x).length 1 (natG .u32 (canon x))), (1, .int .u32 d), (4, .osl 0 1 0 (Int.toNat (↑(canon x).length : Int))), (6, .int .u64 0), (7, .int .i64 ((↑(canon x).length : Int) - (1 : Int)))] [.arr (Int.toNat (↑(canon x).length : Int)) 1 (ke [.int .u32 0])])))) (by kernel_rfl) ?_
 simp only [Tree.holds, zd, inR, lo, hi]
 refine ⟨by omega, fun _ => ⟨by omega, fun _ => ?_⟩⟩
 refine zc.loop (ι := I74 x d) (fun s => S74 x d s.o s.r s.k) (fun s => [.arr s.o.length 1 (natG .u32 s.o)]) (fun s => s.k) ⟨List.replicate (canon x).length 0, 0, (canon x).length, by simp, Nat.le_refl _, hd0, by simp [dig], by simp [val]⟩ 0 ?_ ?_ (by kernel_rfl)
 ·exact ⟨by simp [S74, magS, natS, za], by simp [xV], by kernel_rfl, Nat.zero_le _⟩
 ·rintro ⟨o, r, k, hlen, hle, hr, hdg, he⟩
  refine zc.run hmix xk [0, 1, 4, 6, 7] 400 (T := .ite (decide ((0 : Int) ≤ k - (1 : Int))) (.side (inR .u64 ((↑r : Int) * (1000000000 : Int))) (.side ((0 : Int) ≤ k - (1 : Int) ∧ (↑k : Int) - (1 : Int) < (↑(canon x).length : Int)) (.side (inR .u64 (↑(List.getD (canon x) (Int.toNat ((↑k : Int) - (1 : Int))) 0) : Int)) (.side (inR .u64 ((↑r : Int) * (1000000000 : Int) + (↑(List.getD (canon x) (Int.toNat ((↑k : Int) - (1 : Int))) 0) : Int))) (.side (inR .u64 (↑d : Int)) (.side ((↑d : Int) ≠ 0 ∧ inR .u64 (Int.tdiv ((↑r : Int) * (1000000000 : Int) + (↑(List.getD (canon x) (Int.toNat ((↑k : Int) - (1 : Int))) 0) : Int)) (↑d : Int))) (.side (inR .u32 (Int.tdiv ((↑r : Int) * (1000000000 : Int) + (↑(List.getD (canon x) (Int.toNat ((↑k : Int) - (1 : Int))) 0) : Int)) (↑d : Int))) (.side (inR .u64 (↑d : Int)) (.side ((↑d : Int) ≠ 0) (.side ((0 : Int) ≤ k - (1 : Int) ∧ (↑k : Int) - (1 : Int) < o.length) (.side (inR .i64 ((↑k : Int) - (1 : Int) - (1 : Int))) (.leaf (.back 0 [(0, .sl (canon x).length 1 (natG .u32 (canon x))), (1, .int .u32 d), (4, .osl 0 1 0 o.length), (6, .int .u64 (Int.tmod ((↑r : Int) * (1000000000 : Int) + (↑(List.getD (canon x) (Int.toNat ((↑k : Int) - (1 : Int))) 0) : Int)) (↑d : Int))), (7, .int .i64 ((↑k : Int) - (1 : Int) - (1 : Int)))] [.arr o.length 1 (updG (natG .u32 o) (0 + Int.toNat ((↑k : Int) - (1 : Int))) 0 [.int .u32 (Int.tdiv ((↑r : Int) * (1000000000 : Int) + (↑(List.getD (canon x) (Int.toNat ((↑k : Int) - (1 : Int))) 0) : Int)) (↑d : Int))])]))))))))))))) (.ex (fun (u : List Nat) => u.length = o.length ∧ 0 + o.length ≤ o.length ∧ o.length < 4611686018427387904 ∧ eqG o.length 1 (natG .u32 o) (natG .u32 u) ∧ dig (List.take o.length (List.drop 0 u))) fun n => .all (fun (x : Nat) => x = val (List.take o.length (List.drop 0 n))) fun n => .side (inR .u32 (↑r : Int)) (.leaf (.ret [.osl 0 1 0 (canon n).length, .int .u32 r] [.arr o.length 1 (natG .u32 o)])))) (by kernel_rfl) ?_
  have e : ((k : Int) - 1).toNat = k - 1 := by omega
  have ha := zC (zf x) (k - 1)
  have ev : ((r : Int) * 1000000000 + ((canon x).getD (k - 1) 0 : Nat)) = ((r * B + (canon x).getD (k - 1) 0 : Nat) : Int) := by simp
  simp only [Tree.holds, zd, inR, lo, hi, e, ev, Kl, VJ, kp]
  generalize hv : r * B + (canon x).getD (k - 1) 0 = v
  have hvd : v < d * B := by
   have : (r + 1) * B ≤ d * B := Nat.mul_le_mul_right _ hr
   rw [Nat.add_mul] at this
   omega
  have hq1 : v / d < B := Nat.div_lt_of_lt_mul hvd
  have hr1 : v % d < d := Nat.mod_lt _ hd0
  have hdm := Nat.div_add_mod v d
  generalize v / d = q at hq1 hdm ⊢
  generalize v % d = rr at hr1 hdm ⊢
  have hdB2 : d * B < B * B := Nat.mul_lt_mul_of_pos_right hdB (by decide)
  rw [hB] at hdB2
  refine ⟨fun hk => ?_, fun hk => ?_⟩
  ·have hk : 0 < k := by simp at hk; omega
   refine ⟨by omega, fun _ => ⟨by omega, fun _ => ⟨by omega, fun _ => ⟨by omega, fun _ => ⟨by omega, fun _ => ⟨⟨by omega, by omega, by omega⟩, fun _ => ⟨by omega, fun _ => ⟨by omega, fun _ => ⟨by omega, fun _ => ⟨by omega, fun _ => ⟨by omega, fun _ => ?_⟩⟩⟩⟩⟩⟩⟩⟩⟩⟩⟩
   rw [if_pos trivial]
   have hkl : k - 1 < o.length := by omega
   have hdr : (o.set (k - 1) (q)).drop (k - 1) = (q) :: o.drop k := by
    rw [Wn (by simpa using hkl)]
    rw [show k - 1 + 1 = k by omega, List.drop_set_of_lt (by omega)]
    simp [hkl]
   refine ⟨⟨o.set (k - 1) (q), rr, k - 1, by simpa using hlen, by omega, hr1, by rw [hdr]; exact qw.2 ⟨hq1, hdg⟩, ?_⟩, by show k - 1 < k; omega, by simp [S74, magS, natS, za]; omega, ?_, by kernel_rfl, Nat.zero_le _⟩
   ·rw [hdr, Wn (by omega), show k - 1 + 1 = k by omega]
    simp only [val, he]
    rw [Nat.mul_add, Nat.mul_add, ← Nat.mul_assoc, ← Nat.mul_assoc, Nat.mul_comm d B]
    have h5 : B * r = r * B := Nat.mul_comm _ _
    omega
   ·refine ⟨⟨by simp, rfl, ?_⟩, trivial⟩
    have := wU (k := .u32) (l := o) (v := ((q : Nat) : Int)) (i := k - 1) (by omega) hkl
    simpa using this
  ·have hk : k = 0 := by simp at hk; omega
   subst hk
   simp only [List.drop_zero] at he hdg
   rw [zh] at he
   have hqv : val o = x / d := by
    rw [he, Nat.mul_add_div hd0, Nat.div_eq_of_lt hr, Nat.add_zero]
   have hrv : r = x % d := by rw [he, Nat.mul_add_mod, Nat.mod_eq_of_lt hr]
   have htr : qp o = canon (x / d) := by rw [zF hdg, hqv]
   refine ⟨o, ⟨rfl, by omega, by omega, za _ _ _, by simpa using hdg⟩, ⟨_, rfl⟩, ?_⟩
   intro X hX
   have hX : X = x / d := by simpa [hqv] using hX
   subst hX
   have htl : (canon (x / d)).length = tlen o := by rw [← htr, qp, List.length_take]; have := zT o; omega
   rw [htl]
   refine ⟨by omega, fun _ => ?_⟩
   refine ⟨[], rfl, by simp, by simp, fun _ => ⟨?_, by simp⟩, _, [], qi ?_, by simp [expH], rfl, hq⟩
   ·simp only [resV, new2]
    intro a ha
    rcases List.mem_cons.1 ha with rfl | ha
    ·exact Ju
    ·simp only [List.mem_singleton] at ha; subst ha; rfl
   ·simp only [resV, exp2, List.map_cons, List.map_nil, exp1, Jp, eqA2, eqL1]
    exact ⟨ZI htr, by simp [eqA, exp0, ren0, hrv], trivial⟩
structure D5 where
 t : Nat
 u : Nat
 v : Nat
 y : Nat
 z : Nat
def U8 : Ctr := ctrP true (fun p : D5 => [.int .u64 (p.t : Int), .int .u64 (p.u : Int), .int .u64 (p.v : Int), .int .u64 (p.y : Int), .int .u64 (p.z : Int)])
 (fun p => p.t ≤ p.y ∧ p.u < B ∧ p.v < B ∧ p.y < B ∧ p.z < B ∧ B ≤ 2 * p.y) (fun p n => n = qH p.v p.y p.z 2 ((p.t * B + p.u) / p.y) ((p.t * B + p.u) % p.y)) (fun _ n => (.int .u64 (n : Int), []))
def S77 (v y z q r : Nat) : KV := [(2, .int .u64 (v : Int)), (3, .int .u64 (y : Int)), (4, .int .u64 (z : Int)), (12, .int .u64 (q : Int)), (13, .int .u64 (r : Int))]
structure I77 (v y z R : Nat) where
 q : Nat
 r : Nat
 n : Nat
 rB : r < B
 qB : q ≤ B + 1
 nB : B ≤ r + n * y
 eq : qH v y z n q r = R
theorem Y2 : zb Tryd.prog 89 U8 := by
 refine ze (fn := Tryd.f89) (c := Tryd.f89.body.getD .skip) rfl rfl rfl fun p hp O w0 Q hq => ?_
 replace hq := hq _ rfl
 obtain ⟨t, u, v, y, z⟩ := p
 simp only at hq
 obtain ⟨h1, h2, h3, h4, h5, h6⟩ := hp
 simp only at h1 h2 h3 h4 h5 h6
 have hB : B = 1000000000 := rfl
 refine zc.run hmix zD [2, 3, 4, 12, 13] 400 (T := .side (inR .u64 ((↑t : Int) * (1000000000 : Int))) (.side (inR .u64 ((↑t : Int) * (1000000000 : Int) + u)) (.side ((↑y : Int) ≠ 0 ∧ inR .u64 (Int.tdiv ((↑t : Int) * (1000000000 : Int) + u) (↑y : Int))) (.side ((↑y : Int) ≠ 0) (.leaf (.loop (Prod.fst (lps K89 0)) (Prod.snd (lps K89 0)) [(2, .int .u64 v), (3, .int .u64 y), (4, .int .u64 z), (12, .int .u64 (Int.tdiv ((↑t : Int) * (1000000000 : Int) + u) (↑y : Int))), (13, .int .u64 (Int.tmod ((↑t : Int) * (1000000000 : Int) + u) (↑y : Int)))] [])))))) (by kernel_rfl) ?_
 have ev : ((t : Int) * 1000000000 + (u : Int)) = ((t * B + u : Nat) : Int) := by simp
 simp only [Tree.holds, zd, inR, lo, hi, ev, Kl, VJ]
 have hy : 0 < y := by omega
 have hr : (t * B + u) % y < y := Nat.mod_lt _ hy
 have hq1 : (t * B + u) / y ≤ B + 1 := by
  have h7 : t * B ≤ y * B := Nat.mul_le_mul_right _ h1
  have : (t * B + u) / y < B + 2 := by
   apply Nat.div_lt_of_lt_mul
   rw [Nat.mul_add]
   omega
  omega
 have hst : t * 1000000000 ≤ 1000000000 * 1000000000 := Nat.mul_le_mul_right _ (by omega)
 generalize hR : qH v y z 2 ((t * B + u) / y) ((t * B + u) % y) = R at hq
 generalize hqq : (t * B + u) / y = q at hq1 hR ⊢
 generalize hrr : (t * B + u) % y = r at hr hR ⊢
 refine ⟨by omega, fun _ => ⟨by omega, fun _ => ⟨⟨by omega, by omega, by omega⟩, fun _ => ⟨by omega, fun _ => ?_⟩⟩⟩⟩
 refine zc.loop (ι := I77 v y z R) (fun s => S77 v y z s.q s.r) (fun _ => []) (fun s => s.n) ⟨q, r, 2, by omega, hq1, by omega, hR⟩ 0 ?_ ?_ (by kernel_rfl)
 ·exact ⟨by simp [S77], by simp, by kernel_rfl, Nat.zero_le _⟩
 ·rintro ⟨q, r, n, hrB, hqB, hnB, hR⟩
  refine zc.run hmix zD [2, 3, 4, 12, 13] 400 (T := .side (decide ((1000000000 : Int) ≤ q) = false → inR .u64 ((↑q : Int) * z)) (.side (decide ((1000000000 : Int) ≤ q) = false → inR .u64 ((↑r : Int) * (1000000000 : Int))) (.side (decide ((1000000000 : Int) ≤ q) = false → inR .u64 ((↑r : Int) * (1000000000 : Int) + v)) (.ite (bif decide ((1000000000 : Int) ≤ q) then true else decide ((↑r : Int) * (1000000000 : Int) + v < (↑q : Int) * z)) (.side (inR .u64 ((↑q : Int) - (1 : Int))) (.side (inR .u64 ((↑r : Int) + y)) (.ite (decide ((1000000000 : Int) ≤ r + (↑y : Int))) (.leaf (.ret [.int .u64 ((↑q : Int) - (1 : Int))] [])) (.leaf (.back 0 [(2, .int .u64 v), (3, .int .u64 y), (4, .int .u64 z), (12, .int .u64 ((↑q : Int) - (1 : Int))), (13, .int .u64 ((↑r : Int) + y))] []))))) (.leaf (.ret [.int .u64 q] [])))))) (by kernel_rfl) ?_
  simp only [Tree.holds, zd, inR, lo, hi, Bool.cond_eq_ite]
  have hqz : q * z ≤ 1000000001 * 1000000000 := Nat.mul_le_mul (by omega) (by omega)
  have eqz : ((q : Int) * (z : Int)) = ((q * z : Nat) : Int) := by simp
  rw [eqz]
  have hrb : r * B = 1000000000 * r := Nat.mul_comm _ _
  generalize hp : q * z = p at hqz ⊢
  refine ⟨fun _ => by omega, fun _ => ⟨fun _ => by omega, fun _ => ⟨fun _ => by omega, fun _ => ⟨fun hc => ?_, fun hc => ?_⟩⟩⟩⟩
  ·have hcond : B ≤ q ∨ r * B + v < q * z := by
    rw [hp]
    split at hc
    ·rename_i h; simp only [decide_eq_true_eq] at h; left; omega
    ·simp only [decide_eq_true_eq] at hc; right; omega
   have hq0 : 0 < q := by
    rcases Nat.eq_zero_or_pos q with rfl | h
    ·simp at hcond
    ·exact h
   cases n with
   | zero => omega
   | succ n =>
    simp only [qH, if_pos hcond] at hR
    refine ⟨by omega, fun _ => ⟨by omega, fun _ => ⟨fun hb => ?_, fun hb => ?_⟩⟩⟩
    ·rw [if_pos (by simp at hb; omega)] at hR
     refine RetR.scal hq rfl ?_
     simp only [resV]; congr 1; omega
    ·rw [if_neg (by simp at hb; omega)] at hR
     rw [if_pos trivial]
     refine ⟨⟨q - 1, r + y, n, by simp at hb; omega, by omega, by rw [Nat.add_mul] at hnB; omega, hR⟩, by show n < n + 1; omega, by simp [S77]; omega, by simp, by kernel_rfl, Nat.zero_le _⟩
  ·have hcond : ¬ (B ≤ q ∨ r * B + v < q * z) := by
    rw [hp]
    split at hc
    ·cases hc
    ·rename_i h; simp only [decide_eq_true_eq, decide_eq_false_iff_not] at h hc; omega
   refine RetR.scal hq rfl ?_
   have : qH v y z n q r = q := by
    cases n with
    | zero => rfl
    | succ n => simp only [qH, if_neg hcond]
   simp only [resV]; congr 1; omega
end Go.Proofs.Tryd
end

/- The integers' magnitudes: products. -/
section
set_option maxRecDepth 100000
open Go Go.Sx Go.Proofs Go.Nov
namespace Go.Proofs.Tryd
attribute [local simp] eqKV eqA eqA0 eqH eqB eqL eqL0
noncomputable def K88 : List Go.Sx.Item := [.code (Tryd.f88.body.getD .skip)]
theorem heap_set {k : IntKind} {o : List Nat} {v : Int} {i d i' : Nat} (hv : v = d) (hi : i < o.length) (hi' : i' = i) : eqH [.arr o.length 1 (updG (natG k o) i' 0 [.int k v])] [.arr (o.set i d).length 1 (natG k (o.set i d))] := by
 subst hv
 subst hi'
 refine ⟨⟨by simp, rfl, ?_⟩, by simp [eqH]⟩
 have := wU (k := k) (l := o) (v := (d : Int)) (by omega) hi
 simpa using this
def V7 : Ctr := ctr2 true (fun x y => fits x ∧ fits y)
 (fun x y p => p = x * y) (fun x y p => (.osl 0 1 0 (canon p).length, [.arr ((canon x).length + (canon y).length) 1 (natG .u32 (padN ((canon x).length + (canon y).length) p))]))
def S76 (x y i : Nat) (o : List Nat) : KV := [(0, magS x), (1, magS y), (5, .osl 0 1 0 o.length), (6, .undef), (7, .undef), (8, .undef), (18, magS x), (19, .int .i64 ((canon x).length : Nat)), (20, .int .i64 (i : Int)), (25, .undef), (26, .undef), (27, .undef)]
def S76b (x y i j c : Nat) (o : List Nat) : KV := [(0, magS x), (1, magS y), (5, .osl 0 1 0 o.length), (6, .int .i64 (i : Int)), (7, .int .u32 ((canon x).getD i 0 : Nat)), (8, .int .u64 (c : Int)), (18, magS x), (19, .int .i64 ((canon x).length : Nat)), (20, .int .i64 (i : Int)), (25, magS y), (26, .int .i64 ((canon y).length : Nat)), (27, .int .i64 (j : Int))]
structure I76 (x y : Nat) where
 o : List Nat
 i : Nat
 len : o.length = (canon x).length + (canon y).length
 le : i ≤ (canon x).length
 dg : dig o
 eq : val o = val ((canon x).take i) * y
structure I76b (x y i V : Nat) where
 o : List Nat
 c : Nat
 j : Nat
 len : o.length = (canon x).length + (canon y).length
 le : j ≤ (canon y).length
 dg : dig o
 cB : c < B
 z : ∀ p, i + (canon y).length ≤ p → o.getD p 0 = 0
 eq : val o + B ^ i * B ^ j * c = V + B ^ i * (canon x).getD i 0 * val ((canon y).take j)
theorem W7 {o' Pi Pj op d v a b' c c' V vt vo : Nat} (h1 : o' + Pi*Pj * op = vo + Pi*Pj * d) (h2 : vo + Pi*Pj * c = V + Pi * a * vt) (h3 : B * c' + d = v) (h4 : v = a * b' + op + c) : o' + Pi*(Pj*B) * c' = V + Pi * a * (vt + Pj * b') := by grind
theorem JQ : zb Tryd.prog 88 V7 := by
 refine xH (fn := Tryd.f88) (c := Tryd.f88.body.getD .skip) rfl rfl rfl fun x y hp O w0 Q hq => ?_
 replace hq := hq _ rfl
 obtain ⟨hx, hy⟩ := hp
 simp only [fits] at hx hy hq
 have hB : B = 1000000000 := rfl
 refine zc.run hmix xk [0, 1, 5, 6, 7, 8, 18, 19, 20, 25, 26, 27] 400 (T := .side (inR .i64 ((↑(canon x).length : Int) + (↑(canon y).length : Int))) (.side ((0 : Int) ≤ (↑(canon x).length : Int) + (↑(canon y).length : Int) ∧ (↑(canon x).length : Int) + (↑(canon y).length : Int) ≤ (↑(canon x).length : Int) + (↑(canon y).length : Int) ∧ inR .i64 ((↑(canon x).length : Int) + (↑(canon y).length : Int)) ∧ Int.toNat ((↑(canon x).length : Int) + (↑(canon y).length : Int)) * 4 ≤ 140737488355328) (.leaf (.loop (Prod.fst (lps K88 0)) (Prod.snd (lps K88 0)) [(0, .sl (canon x).length 1 (natG .u32 (canon x))), (1, .sl (canon y).length 1 (natG .u32 (canon y))), (5, .osl 0 1 0 (Int.toNat ((↑(canon x).length : Int) + (↑(canon y).length : Int)))), (6, .undef), (7, .undef), (8, .undef), (18, .sl (canon x).length 1 (natG .u32 (canon x))), (19, .int .i64 (↑(canon x).length : Int)), (20, .int .i64 0), (25, .undef), (26, .undef), (27, .undef)] [.arr (Int.toNat ((↑(canon x).length : Int) + (↑(canon y).length : Int))) 1 (ke [.int .u32 0])])))) (by kernel_rfl) ?_
 simp only [Tree.holds, zd, inR, lo, hi]
 have esum : ((canon x).length : Int) + ((canon y).length : Int) = (((canon x).length + (canon y).length : Nat) : Int) := by omega
 simp only [esum, Int.toNat_natCast]
 refine ⟨by omega, fun _ => ⟨by omega, fun _ => ?_⟩⟩
 refine zc.loop (ι := I76 x y) (fun s => S76 x y s.i s.o) (fun s => [.arr s.o.length 1 (natG .u32 s.o)]) (fun s => (canon x).length - s.i) ⟨List.replicate ((canon x).length + (canon y).length) 0, 0, by simp, Nat.zero_le _, qD _, by simp [je, val]⟩ 0 ?_ ?_ (by kernel_rfl)
 ·exact ⟨by simp [S76, magS, natS, za], by simp [xV], by kernel_rfl, Nat.zero_le _⟩
 ·rintro ⟨o, i, hlen, hle, hd, he⟩
  refine zc.run hmix xk [0, 1, 5, 6, 7, 8, 18, 19, 20, 25, 26, 27] 400 (T := .ite (decide ((↑i : Int) < (↑(canon x).length : Int))) (.side ((0 : Int) ≤ i ∧ (↑i : Int) < (↑(canon x).length : Int)) (.leaf (.loop (Prod.fst (lps (inside K88 0) 0)) (Prod.snd (lps (inside K88 0) 0)) [(0, .sl (canon x).length 1 (natG .u32 (canon x))), (1, .sl (canon y).length 1 (natG .u32 (canon y))), (5, .osl 0 1 0 o.length), (6, .int .i64 i), (7, .int .u32 (↑(List.getD (canon x) (Int.toNat (↑i : Int)) 0) : Int)), (8, .int .u64 0), (18, .sl (canon x).length 1 (natG .u32 (canon x))), (19, .int .i64 (↑(canon x).length : Int)), (20, .int .i64 i), (25, .sl (canon y).length 1 (natG .u32 (canon y))), (26, .int .i64 (↑(canon y).length : Int)), (27, .int .i64 0)] [.arr o.length 1 (natG .u32 o)]))) (.ex (fun (u : List Nat) => u.length = o.length ∧ 0 + o.length ≤ o.length ∧ o.length < 4611686018427387904 ∧ eqG o.length 1 (natG .u32 o) (natG .u32 u) ∧ dig (List.take o.length (List.drop 0 u))) fun n => .all (fun (x : Nat) => x = val (List.take o.length (List.drop 0 n))) fun n => .leaf (.ret [.osl 0 1 0 (canon n).length] [.arr o.length 1 (natG .u32 o)]))) (by kernel_rfl) ?_
  simp only [Tree.holds, zd, inR, lo, hi, Int.toNat_natCast, kp]
  have hz : ∀ p, i + (canon y).length ≤ p → o.getD p 0 = 0 := by
   intro p hp
   refine Zj (n := i + (canon y).length) ?_ hp
   rw [he, Nat.pow_add]
   have h1 := zW (jc (zf x) i)
   have h2 := zW (zf y)
   rw [zh] at h2
   have h3 : B ^ ((canon x).take i).length = B ^ i := by rw [List.length_take, Nat.min_eq_left hle]
   rw [h3] at h1
   exact Nat.mul_lt_mul_of_lt_of_le h1 (Nat.le_of_lt h2) (Nat.pow_pos (by decide))
  refine ⟨fun hlt => ⟨by simp at hlt; omega, fun _ => ?_⟩, fun hge => ?_⟩
  ·have hlt : i < (canon x).length := by simp at hlt; omega
   refine zc.loop (ι := I76b x y i (val o)) (fun s => S76b x y i s.j s.c s.o) (fun s => [.arr s.o.length 1 (natG .u32 s.o)]) (fun s => (canon y).length - s.j) ⟨o, 0, 0, hlen, Nat.zero_le _, hd, by decide, hz, by simp [val]⟩ 1 ?_ ?_ (by kernel_rfl)
   ·exact ⟨by simp [S76b, magS, natS, za], by simp [za], by kernel_rfl, Nat.zero_le _⟩
   ·rintro ⟨o2, c, j, hlen2, hle2, hd2, hcB, hz2, he2⟩
    refine zc.run hmix xk [0, 1, 5, 6, 7, 8, 18, 19, 20, 25, 26, 27] 400 (T := .ite (decide ((↑j : Int) < (↑(canon y).length : Int))) (.side ((0 : Int) ≤ j ∧ (↑j : Int) < (↑(canon y).length : Int)) (.side (inR .u64 (↑(List.getD (canon x) i 0) : Int)) (.side (inR .u64 (↑(List.getD (canon y) (Int.toNat (↑j : Int)) 0) : Int)) (.side (inR .u64 ((↑(List.getD (canon x) i 0) : Int) * (↑(List.getD (canon y) (Int.toNat (↑j : Int)) 0) : Int))) (.side (inR .i64 ((↑i : Int) + j)) (.side ((0 : Int) ≤ i + (↑j : Int) ∧ (↑i : Int) + j < (↑o2.length : Int)) (.side (inR .u64 (↑(List.getD o2 (0 + Int.toNat ((↑i : Int) + j)) 0) : Int)) (.side (inR .u64 ((↑(List.getD (canon x) i 0) : Int) * (↑(List.getD (canon y) (Int.toNat (↑j : Int)) 0) : Int) + (↑(List.getD o2 (0 + Int.toNat ((↑i : Int) + j)) 0) : Int))) (.side (inR .u64 ((↑(List.getD (canon x) i 0) : Int) * (↑(List.getD (canon y) (Int.toNat (↑j : Int)) 0) : Int) + (↑(List.getD o2 (0 + Int.toNat ((↑i : Int) + j)) 0) : Int) + c)) (.side (inR .i64 ((↑i : Int) + j)) (.side ((1000000000 : Int) ≠ 0) (.side (inR .u32 (Int.tmod ((↑(List.getD (canon x) i 0) : Int) * (↑(List.getD (canon y) (Int.toNat (↑j : Int)) 0) : Int) + (↑(List.getD o2 (0 + Int.toNat ((↑i : Int) + j)) 0) : Int) + c) (1000000000 : Int))) (.side ((1000000000 : Int) ≠ 0 ∧ inR .u64 (Int.tdiv ((↑(List.getD (canon x) i 0) : Int) * (↑(List.getD (canon y) (Int.toNat (↑j : Int)) 0) : Int) + (↑(List.getD o2 (0 + Int.toNat ((↑i : Int) + j)) 0) : Int) + c) (1000000000 : Int))) (.side ((0 : Int) ≤ i + (↑j : Int) ∧ (↑i : Int) + j < (↑o2.length : Int)) (.side (inR .i64 ((↑j : Int) + (1 : Int))) (.leaf (.back 1 [(0, .sl (canon x).length 1 (natG .u32 (canon x))), (1, .sl (canon y).length 1 (natG .u32 (canon y))), (5, .osl 0 1 0 o2.length), (6, .int .i64 i), (7, .int .u32 (↑(List.getD (canon x) i 0) : Int)), (8, .int .u64 (Int.tdiv ((↑(List.getD (canon x) i 0) : Int) * (↑(List.getD (canon y) (Int.toNat (↑j : Int)) 0) : Int) + (↑(List.getD o2 (0 + Int.toNat ((↑i : Int) + j)) 0) : Int) + c) (1000000000 : Int))), (18, .sl (canon x).length 1 (natG .u32 (canon x))), (19, .int .i64 (↑(canon x).length : Int)), (20, .int .i64 i), (25, .sl (canon y).length 1 (natG .u32 (canon y))), (26, .int .i64 (↑(canon y).length : Int)), (27, .int .i64 ((↑j : Int) + (1 : Int)))] [.arr o2.length 1 (updG (natG .u32 o2) (0 + Int.toNat ((↑i : Int) + j)) 0 [.int .u32 (Int.tmod ((↑(List.getD (canon x) i 0) : Int) * (↑(List.getD (canon y) (Int.toNat (↑j : Int)) 0) : Int) + (↑(List.getD o2 (0 + Int.toNat ((↑i : Int) + j)) 0) : Int) + c) (1000000000 : Int))])]))))))))))))))))) (.side (inR .i64 ((↑i : Int) + (↑(canon y).length : Int))) (.side ((0 : Int) ≤ i + (↑(canon y).length : Int) ∧ (↑i : Int) + (↑(canon y).length : Int) < o2.length) (.side (inR .u32 (↑c : Int)) (.side (inR .u32 ((↑(List.getD o2 (0 + Int.toNat ((↑i : Int) + (↑(canon y).length : Int))) 0) : Int) + c)) (.side ((0 : Int) ≤ i + (↑(canon y).length : Int) ∧ (↑i : Int) + (↑(canon y).length : Int) < o2.length) (.side (inR .i64 ((↑i : Int) + (1 : Int))) (.leaf (.back 0 [(0, .sl (canon x).length 1 (natG .u32 (canon x))), (1, .sl (canon y).length 1 (natG .u32 (canon y))), (5, .osl 0 1 0 o2.length), (6, .int .i64 i), (7, .int .u32 (↑(List.getD (canon x) i 0) : Int)), (8, .int .u64 c), (18, .sl (canon x).length 1 (natG .u32 (canon x))), (19, .int .i64 (↑(canon x).length : Int)), (20, .int .i64 ((↑i : Int) + (1 : Int))), (25, .sl (canon y).length 1 (natG .u32 (canon y))), (26, .int .i64 (↑(canon y).length : Int)), (27, .int .i64 j)] [.arr o2.length 1 (updG (natG .u32 o2) (0 + Int.toNat ((↑i : Int) + (↑(canon y).length : Int))) 0 [.int .u32 ((↑(List.getD o2 (0 + Int.toNat ((↑i : Int) + (↑(canon y).length : Int))) 0) : Int) + c)])]))))))))) (by kernel_rfl) ?_
    have ha := zC (zf x) i
    have hb := zC (zf y) j
    have ho := zC hd2 (i + j)
    have e1 : ((i : Int) + (j : Int)) = ((i + j : Nat) : Int) := by omega
    have e2 : ((i : Int) + ((canon y).length : Int)) = ((i + (canon y).length : Nat) : Int) := by omega
    simp only [Tree.holds, zd, inR, lo, hi, e1, e2, Int.toNat_natCast, Nat.zero_add]
    have e3 : (((canon x).getD i 0 : Nat) : Int) * (((canon y).getD j 0 : Nat) : Int) = (((canon x).getD i 0 * (canon y).getD j 0 : Nat) : Int) := by simp
    have hab : (canon x).getD i 0 * (canon y).getD j 0 ≤ 999999999 * 999999999 := Nat.mul_le_mul (by omega) (by omega)
    generalize hv : (canon x).getD i 0 * (canon y).getD j 0 + o2.getD (i + j) 0 + c = v
    have e4 : (((canon x).getD i 0 : Nat) : Int) * (((canon y).getD j 0 : Nat) : Int) + ((o2.getD (i + j) 0 : Nat) : Int) + (c : Int) = (v : Int) := by rw [e3, ← hv]; omega
    have e5 : (1000000000 : Int) = ((B : Nat) : Int) := rfl
    have hvB : v < 1000000000 * 1000000000 := by omega
    have hdm := Nat.div_add_mod v B
    have hmod : v % B < B := Nat.mod_lt _ (by decide)
    have hdiv : v / B < B := Nat.div_lt_of_lt_mul hvB
    rw [e4, e5, Kl, VJ]
    generalize v / B = c' at hdm hdiv ⊢
    generalize v % B = d at hdm hmod ⊢
    rw [e3]
    generalize hab2 : (canon x).getD i 0 * (canon y).getD j 0 = ab at hab hv ⊢
    refine ⟨fun hj => ?_, fun hj => ?_⟩
    ·have hj : j < (canon y).length := by simp at hj; omega
     have hp : i + j < o2.length := by omega
     refine ⟨by omega, fun _ => ⟨by omega, fun _ => ⟨by omega, fun _ => ⟨by omega, fun _ => ⟨by omega, fun _ => ⟨by omega, fun _ => ⟨by omega, fun _ => ⟨by omega, fun _ => ⟨by omega, fun _ => ⟨by omega, fun _ => ⟨by omega, fun _ => ⟨by omega, fun _ => ⟨by omega, fun _ => ⟨by omega, fun _ => ⟨by omega, fun _ => ?_⟩⟩⟩⟩⟩⟩⟩⟩⟩⟩⟩⟩⟩⟩⟩
     rw [if_pos trivial]
     have hs := xL o2 (i + j) d hp
     refine ⟨⟨o2.set (i + j) d, c', j + 1, by simpa using hlen2, by omega, yD hd2 _ hmod, hdiv, fun p hp2 => ?_, ?_⟩, by show _ - (j + 1) < _ - j; omega, by simp [S76b, magS, natS, za], heap_set rfl hp rfl, by kernel_rfl, Nat.zero_le _⟩
     ·have := hz2 p hp2
      simp only [List.getD] at this ⊢
      rw [List.getElem?_set_ne (by omega)]; exact this
     ·rw [Nat.pow_add] at hs
      rw [Nat.pow_succ, zl]
      exact W7 hs he2 hdm (by rw [hab2]; omega)
    ·have hj : j = (canon y).length := by simp at hj; omega
     subst hj
     have h0 := hz2 (i + (canon y).length) (Nat.le_refl _)
     have hp : i + (canon y).length < o2.length := by omega
     have hs := xL o2 (i + (canon y).length) c hp
     refine ⟨by omega, fun _ => ⟨by omega, fun _ => ⟨by omega, fun _ => ⟨by omega, fun _ => ⟨by omega, fun _ => ⟨by omega, fun _ => ?_⟩⟩⟩⟩⟩⟩
     rw [if_neg (by decide), if_pos trivial]
     refine ⟨⟨o2.set (i + (canon y).length) c, i + 1, by simpa using hlen2, by omega, yD hd2 _ hcB, ?_⟩, by show _ - (i + 1) < _ - i; omega, by simp [S76, magS, natS, za], heap_set (by omega) hp rfl, by kernel_rfl, Nat.zero_le _⟩
     rw [h0, Nat.pow_add] at hs
     rw [List.take_length, zh] at he2
     rw [zl, Nat.add_mul, ← he]
     simp only [Nat.mul_zero, Nat.add_zero] at hs
     rw [hs, he2]
  ·have hge : i = (canon x).length := by simp at hge; omega
   subst hge
   rw [List.take_length, zh] at he
   refine ⟨o, ⟨rfl, by omega, by omega, za _ _ _, by simpa using hd⟩, ⟨_, rfl⟩, ?_⟩
   intro X hX
   have hX : X = x * y := by simpa [he] using hX
   subst hX
   refine ⟨[0], rfl, by simp, by simp, fun _ => ⟨?_, ?_⟩, _, _, qi ?_, ?_, rfl, hq⟩
   ·simp [resV, new2, new1, new0, z5]
   ·intro k hk
    simp only [List.mem_singleton] at hk
    subst hk
    intro j o' _ _
    rfl
   ·simp [resV, exp2, exp1, exp0, z5, eqA2, eqA]
   ·have hpad := WE hd
    rw [he, hlen] at hpad
    rw [← hpad]
    simp [expH, expB, hlen, za]
end Go.Proofs.Tryd
end
