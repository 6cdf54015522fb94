/- Part 5 of the proof. -/
import Derived.Test.YthhkojokgcngnaaGreatSxa
import Derived.Test.YthhkojokgcngnaaGreatSxd
import Derived.Test.YthhkojokgcngnaaGreatProg
import Derived.Lib.Strings
import Derived.Lib.Slices
import Derived.Lib.Walk
import Derived.Lib.Bytealg
set_option linter.unusedVariables false
set_option linter.unusedSimpArgs false
set_option linter.unusedSectionVars false

/- Freezing own slices between operations. -/
section
namespace Go.Sx
variable [Stat]
section
variable {O : Nat → Prop} {pin : Nat} {w0 : World} {σ0 : List SE} {w : World} {σ : List SE} {P : Program} {st : St} {a : Act} {fn : Func}
def kU (K : List Nat) (h : Heap) (a : AV) : AV := match frz h a with
  | some (a', k) => bif k.all K.contains then a' else zy K a
  | none => zy K a
theorem Ks {h : Heap} (hg : Good O w σ) (hh : HRep (Own O σ) w σ h) {K : List Nat} {a : AV} {v : Value} (ha : Rep (Own O σ) w a σ v) : Rep (Own O (frzS K σ)) w (kU K h a) (frzS K σ) v := by
  have hkill : Rep (Own O (frzS K σ)) w (zy K a) (frzS K σ) v := zS (jB K w σ) (kX K w σ) _ _ (vO K a) (j3 ha)
  unfold kU
  split
  · rename_i a' k hf
    cases hk : k.all K.contains with
    | false => exact hkill
    | true =>
      have h1 := yN hg hh ha hf (K := K) (fun i hi => by have := List.all_eq_true.1 hk i hi; simpa using this)
      exact zS (K := []) (Ext.refl _ _) (fun i e he => by simp at he) _ _ (qT _) h1
  · exact hkill
theorem Vg (i : Nat) {a : AV} (h : zA a = true) : zA (zT i a) = true := by
  cases a with
  | opt _ _ _ => cases h
  | _ =>
    simp only [zT]
    try simp only [qK]
    repeat (first | rfl | split)
theorem kf : ∀ (K : List Nat) {a : AV}, zA a = true → zA (zy K a) = true
  | [], _, h => h
  | i :: K, _, h => kf K (Vg i h)
theorem Yd {h : Heap} {a a' : AV} {k : List Nat} (hf : frz h a = some (a', k)) : zA a' = true := by
  cases a with
  | fn f x y => cases x <;> cases y <;> simp [frz, frz1] at hf; obtain ⟨rfl, _⟩ := hf; rfl
  | opt _ _ _ => simp [frz, frz1] at hf
  | _ =>
    simp only [frz, frz1] at hf
    first
    | (simp only [Option.some.injEq, Prod.mk.injEq] at hf; obtain ⟨rfl, _⟩ := hf; rfl)
    | (cases hf; done)
    | (split at hf
       · simp only [Option.some.injEq, Prod.mk.injEq] at hf; obtain ⟨rfl, _⟩ := hf; rfl
       · cases hf)
theorem VZ {K : List Nat} {h : Heap} {a : AV} (ha : zA a = true) : zA (kU K h a) = true := by
  unfold kU
  split
  · rename_i a' k hf
    cases k.all K.contains with
    | false => exact kf K ha
    | true => exact Yd hf
  · exact kf K ha
def Qa (K : List Nat) (st : St) : St := ⟨st.tmps.map (kU K st.heap), vn K (zB K st.heap)⟩
theorem zc9 (hm : Mod O pin w0 σ0 w σ st a) {K : List Nat} (hK : ∀ i ∈ K, pin ≤ i) (hno : st.tmps.all zA = true) : Mod O pin w0 σ0 w (frzS K σ) (Qa K st) a := by
  have hx := jB (O := O) K w σ
  refine ⟨yR K hm.good, xY hm.hp K, by simp [Qa, hm.size], fun t => ?_, hm.df.ext hx, hm.since.trans ⟨hx, fun _ _ _ => rfl, fun i e hi2 he => kX K w σ i e he fun h => by have := hK i h; omega⟩, hm.lim⟩
  have ht := hm.tm t
  have e : (Qa K st).tmps.getD t .undef = kU K st.heap (st.tmps.getD t .undef) ∨ (Qa K st).tmps.getD t .undef = .undef := by
    simp only [Qa, List.getD, List.getElem?_map]
    cases st.tmps[t]? with
    | none => exact .inr rfl
    | some x => exact .inl rfl
  have hn : zA (st.tmps.getD t .undef) = true := by
    by_cases hlt : t < st.tmps.length
    · simp only [List.getD, List.getElem?_eq_getElem hlt, Option.getD_some]
      exact List.all_eq_true.1 hno _ (List.getElem_mem hlt)
    · simp only [List.getD]
      rw [List.getElem?_eq_none (by omega)]; rfl
  rcases e with e | e
  · rw [e]
    have hr : Rep (Own O σ) w (st.tmps.getD t .undef) σ (a.tmps.getD t undef) := by
      generalize st.tmps.getD t .undef = x at ht hn
      cases x with
      | opt _ _ _ => cases hn
      | _ => exact ht
    have := Ks hm.good hm.hp (K := K) hr
    have hno2 := VZ (K := K) (h := st.heap) hn
    generalize kU K st.heap (st.tmps.getD t .undef) = y at this hno2
    cases y with
    | opt t b x => cases hno2
    | _ => exact this
  · rw [e]; simp [TRep, Rep]
def WR (K : List Nat) (h : Heap) (kv : KV) : KV := kv.map fun p => (p.1, kU K h p.2)
theorem Up {K : List Nat} {h : Heap} {kv : KV} (t : Nat) : look (WR K h kv) t = kU K h (look kv t) := by
  induction kv with
  | nil =>
    show AV.undef = kU K h .undef
    simp only [kU, frz, frz1]
    have : ∀ K, zy K .undef = .undef := by
      intro K
      induction K with
      | nil => rfl
      | cons i K ih => exact ih
    rw [this]
  | cons p l ih =>
    simp only [WR, List.map_cons, look] at ih ⊢
    split
    · rfl
    · exact ih
theorem zc.freeze {M : Option Nat} {Hs : Nat → KV → Heap → Prop} {R : List AV → Heap → Prop} {k : List Item} {kv : KV} {h : Heap} (K : List Nat) (hK : ∀ i ∈ K, pin ≤ i) (hno : (pk fn.ntmps kv).all zA = true)
    (H : qi M P fn O pin w0 σ0 Hs R k (mk fn.ntmps (WR K h kv) (vn K (zB K h)))) : qi M P fn O pin w0 σ0 Hs R k (mk fn.ntmps kv h) := by
  intro w σ a hm
  have h1 := zc9 hm hK hno
  have e : Qa K (mk fn.ntmps kv h) = mk fn.ntmps (WR K h kv) (vn K (zB K h)) := by
    simp only [Qa, mk, pk, List.map_map]
    congr 1
    apply List.map_congr_left
    intro t _
    simp only [Function.comp_apply, Up]
  rw [e] at h1
  exact H w _ a h1
theorem zc7 (hm : Mod O pin w0 σ0 w σ st a) (hno : st.tmps.all zA = true) : Mod O pin w0 σ0 w (σ ++ [⟨none, 0⟩]) ⟨st.tmps, st.heap ++ [.arr 0 1 fun _ _ => .undef]⟩ a := by
  obtain ⟨k1, k2, k3⟩ := Wf hm.good hm.hp 1 fun _ _ => .undef
  have hx := ext_nil (O := O) w σ 0
  refine ⟨k2, k1, hm.size, fun u => ?_, hm.df.ext hx, hm.since.trans ⟨hx, fun _ _ _ => rfl, wx.of k3 (by simp)⟩, hm.lim⟩
  have hu := hm.tm u
  have hn : zA (st.tmps.getD u .undef) = true := by
    by_cases hlt : u < st.tmps.length
    · simp only [List.getD, List.getElem?_eq_getElem hlt, Option.getD_some]
      exact List.all_eq_true.1 hno _ (List.getElem_mem hlt)
    · simp only [List.getD]
      rw [List.getElem?_eq_none (by omega)]; rfl
  simp only
  generalize st.tmps.getD u .undef = x at hu hn
  cases x with
  | opt _ _ _ => simp [zA] at hn
  | _ => simp only [TRep] at hu ⊢; exact zS hx k3 _ _ (qT _) hu
theorem zc.void {M : Option Nat} {Hs : Nat → KV → Heap → Prop} {R : List AV → Heap → Prop} {k : List Item} {kv : KV} {h : Heap} (hno : (pk fn.ntmps kv).all zA = true)
    (H : qi M P fn O pin w0 σ0 Hs R k (mk fn.ntmps kv (h ++ [.arr 0 1 fun _ _ => .undef]))) : qi M P fn O pin w0 σ0 Hs R k (mk fn.ntmps kv h) :=
  fun w σ a hm => H w _ a (zc7 hm hno)
end
end Go.Sx
end

/- Expressions as data. -/
section
namespace Go.Nov
open Go.Sx
inductive Ex where
 | mk (kind : Int) (rat name : List UInt8) (date : Int) (sub : List Ex)
namespace Ex
def kind : Ex → Int | mk k _ _ _ _ => k
def rat : Ex → List UInt8 | mk _ r _ _ _ => r
def name : Ex → List UInt8 | mk _ _ n _ _ => n
def date : Ex → Int | mk _ _ _ d _ => d
def sub : Ex → List Ex | mk _ _ _ _ s => s
mutual
def size : Ex → Nat
 | mk _ _ _ _ s => 1 + ze3 s
def ze3 : List Ex → Nat
 | [] => 0
 | x :: l => size x + ze3 l
end
abbrev nil : Ex := mk 0 [] [] 0 []
def cell (k : Int) (r n : List UInt8) (d : Int) (l : Nat) (g : Nat → Nat → AV) : Nat → AV
 | 0 => .int .u8 k
 | 1 => .str r
 | 2 => .str n
 | 3 => .int .i64 d
 | 4 => .sl l 5 g
 | _ => .undef
def deep : Ex → Nat → Nat → AV
 | mk _ _ _ _ s => fun j => (s.map fun x => cell x.kind x.rat x.name x.date x.sub.length (deep x)).getD j fun _ => .undef
def exG (s : List Ex) : Nat → Nat → AV := fun j => cell (s.getD j nil).kind (s.getD j nil).rat (s.getD j nil).name (s.getD j nil).date (s.getD j nil).sub.length (deep (s.getD j nil))
def exS (s : List Ex) : AV := .sl s.length 5 (exG s)
def exA (x : Ex) : AV := .agg [.int .u8 x.kind, .str x.rat, .str x.name, .int .i64 x.date, exS x.sub]
end Ex
end Go.Nov
end

/- The kinds of expressions that have parts. -/
section
namespace Go.Nov
open Go.Sx
end Go.Nov
end

/- What the package-level variables of the seat hold. -/
section
open Go Go.Sx Go.Proofs Go.Nov
namespace Go.Proofs.Tryz
noncomputable instance : Go.Sx.Stat := ⟨fun g =>
 none⟩
theorem Y8 {own : Nat → Prop} {w : World} : vu own w := ⟨fun g a h => by cases h⟩
end Go.Proofs.Tryz
end

/- The integers' magnitudes: what the small functions compute. -/
section
set_option maxRecDepth 100000
open Go Go.Sx Go.Proofs Go.Nov
namespace Go.Proofs.Tryz
attribute [local simp] eqKV eqA eqA0 eqH eqB eqL eqL0
noncomputable def K104 : List Go.Sx.Item := [.code (Tryz.f104.body.getD .skip)]
theorem hmix : Tryz.prog.follows .mixedOrders = true := by decide +kernel
def noG : Nat → Option Ctr := fun _ => none
theorem zr : ∀ g c, noG g = some c → ze Tryz.prog g c := fun _ _ h => by cases h
def zeo : AV → Nat
 | .int _ n => n.toNat
 | _ => 0
def decN (n : Nat) (g : Nat → Nat → AV) : List Nat := (List.range n).map fun j => zeo (g j 0)
theorem yU (k : IntKind) (l : List Nat) : decN l.length (natG k l) = l := by
 apply List.ext_getElem (by simp [decN])
 intro j h1 h2
 simp [decN, natG, zeo, h2]
theorem za (n sz : Nat) (g : Nat → Nat → AV) : eqG n sz g g := fun _ _ _ _ => rfl
theorem Z5 {k : IntKind} {l : List Nat} {v : Int} (hv : 0 ≤ v) : eqG (l.length + 1) 1 (appG l.length (natG k l) (zg (zf 1 [.int k v]) 0)) (natG k (l ++ [v.toNat])) := by
 intro j o hj ho
 have ho : o = 0 := by omega
 subst ho
 simp only [appG, zg, zf, natG]
 by_cases h : j < l.length
 ·simp [h, List.getElem?_append]
 ·have : j = l.length := by omega
  subst this
  simp [Int.toNat_of_nonneg hv]
theorem jw {k : IntKind} {o : List Nat} {v : Int} {d : Nat} {r : Heap} (hv : v = d) : eqH (.arr (o.length + 1) 1 (appG o.length (natG k o) (zg (zf 1 [.int k v]) 0)) :: r) [.arr (o ++ [d]).length 1 (natG k (o ++ [d]))] := by
 subst hv
 refine ⟨⟨by simp, rfl, ?_⟩, by simp [eqH]⟩
 have := Z5 (k := k) (l := o) (v := (d : Int)) (by omega)
 simpa using this
theorem wz {k : IntKind} {l : List Nat} {v : Int} {i : Nat} (hv : 0 ≤ v) (hi : i < l.length) : eqG l.length 1 (updG (natG k l) i 0 [.int k v]) (natG k (l.set i v.toNat)) := by
 intro j o hj ho
 have ho : o = 0 := by omega
 subst ho
 simp only [updG, natG, List.length_cons, List.length_nil]
 by_cases h : j = i
 ·subst h
  simp [hj, Int.toNat_of_nonneg hv]
 ·simp only [h, false_and, if_false]
  simp [List.getElem?_set_ne (fun e => h e.symm)]
def magS (x : Nat) : AV := natS .u32 (canon x)
def fits (x : Nat) : Prop := (canon x).length < 1000000
theorem Wm {m off n : Nat} {k : IntKind} {o : List Nat} {r : Heap} : new0 (.arr m 1 (natG k o) :: r) [] (.osl 0 1 off n) := by
 intro _
 simp only [exp0, zq, frz1, qw, List.getElem?_cons_zero, if_true]
 intro j o' _ _
 rfl
theorem Wk {m off n : Nat} {g : Nat → Nat → AV} {r : Heap} : exp0 (.arr m 1 g :: r) [] (.osl 0 1 off n) = .sl n 1 (zg g off) := by
 simp [exp0, zq, frz1, qw]
theorem QV {k : IntKind} {o l : List Nat} (h : qN o = l) : eqA0 (.sl (tlen o) 1 (zg (natG k o) 0)) (natS k l) := by
 subst h
 simp only [eqA0, natS, qN, List.length_take, true_and]
 refine ⟨by have := qg o; omega, ?_⟩
 intro j o' hj ho'
 have : o' = 0 := by omega
 subst this
 simp [zg, natG, List.getElem?_take, hj]
def ctr2 {R : Type} (fresh : Bool) (pre : Nat → Nat → Prop) (post : Nat → Nat → R → Prop) (out : Nat → Nat → R → AV × Heap) : Ctr :=
 ctrP fresh (fun p : Nat × Nat => [magS p.1, magS p.2]) (fun p => pre p.1 p.2) (fun p => post p.1 p.2) (fun p => out p.1 p.2)
theorem Zf {R : Type} {fresh : Bool} {pre : Nat → Nat → Prop} {post : Nat → Nat → R → Prop} {out : Nat → Nat → R → AV × Heap} {g : Nat} {fn : Func} {c : Code} (hf : Tryz.prog.funcs[g]? = some fn) (hb : fn.body = some c) (hn : (fn.name == "runtime.NumGoroutine") = false)
  (H : ∀ x y, pre x y → ∀ (O : Nat → Prop) (w0 : World) (Q : AV × Heap → Prop), (∀ r, post x y r → Q (out x y r)) → zc Tryz.prog fn O 0 w0 [] (fun _ _ _ => False) (RetR (ctr2 fresh pre post out) 0 Q) [.code c] (entry fn [magS x, magS y])) : ze Tryz.prog g (ctr2 fresh pre post out) :=
 zh hf hb hn fun p hp => H p.1 p.2 hp
def uG : Ctr where
 fresh := false
 spec args hc := match args, hc with
  | [.sl n 1 g], [] => .ex (fun l : List Nat => dig l ∧ l.length = n ∧ n < 2 ^ 62 ∧ eqG n 1 g (natG .u32 l)) fun l => .all (fun x => x = val l) fun x => .leaf (magS x, [])
  | [.osl 0 1 off n], [.arr m 1 g] => .ex (fun u : List Nat => u.length = m ∧ off + n ≤ m ∧ n < 2 ^ 62 ∧ eqG m 1 g (natG .u32 u) ∧ dig ((u.drop off).take n)) fun u => .all (fun x => x = val ((u.drop off).take n)) fun x => .leaf (.osl 0 1 off (canon x).length, [.arr m 1 g])
  | _, _ => .fail
def S75o (off n : Nat) : KV := [(0, .osl 0 1 off n)]
def S75 (l : List Nat) (n : Nat) : KV := [(0, .sl n 1 (natG .u32 l))]
theorem JB : ze Tryz.prog 104 uG := by
 intro args hc Q hq hfr
 unfold uG at hq
 dsimp only at hq
 split at hq
 ·rename_i n g
  obtain ⟨l, ⟨hdl, hln, hn, hg⟩, _, hq⟩ := hq
  obtain ⟨x, hv⟩ : ∃ x, val l = x := ⟨_, rfl⟩
  replace hq := hq x hv.symm
  have hcan : qN l = canon x := by rw [zP hdl, hv]
  simp only [magS, ← hcan] at hq
  refine qq.le (args' := [natS .u32 l]) (by simp [natS, hln, hg]) (fn_k (fn := Tryz.f104) (c := Tryz.f104.body.getD .skip) rfl rfl rfl hfr fun O w0 σ0 h0 => ?_)
  refine zc.run hmix zr [0] 400 (T := .leaf (.loop (Prod.fst (lps K104 0)) (Prod.snd (lps K104 0)) [(0, .sl l.length 1 (natG .u32 l))] [])) (by kernel_rfl) ?_
  refine zc.loop (ι := {n : Nat // tlen l ≤ n ∧ n ≤ l.length}) (fun x => S75 l x.1) (fun _ => []) (fun x => x.1) ⟨l.length, qg l, Nat.le_refl _⟩ 0 ?_ ?_ (by kernel_rfl)
  ·exact ⟨by simp [S75, eqG], by simp, by kernel_rfl, Nat.zero_le _⟩
  ·rintro ⟨n, h1, h2⟩
   refine zc.run hmix zr [0] 400 (T := .side (decide ((0 : Int) < n) = true → inR .i64 ((↑n : Int) - (1 : Int))) (.side (decide ((0 : Int) < n) = true → (0 : Int) ≤ n - (1 : Int) ∧ (↑n : Int) - (1 : Int) < n) (.ite (bif decide ((0 : Int) < n) then decide ((↑(List.getD l (Int.toNat ((↑n : Int) - (1 : Int))) 0) : Int) = 0) else false) (.side (inR .i64 ((↑n : Int) - (1 : Int))) (.side ((0 : Int) ≤ n - (1 : Int) ∧ (↑n : Int) - (1 : Int) ≤ n) (.leaf (.back 0 [(0, .sl (Int.toNat ((↑n : Int) - (1 : Int)) - 0) 1 (zg (natG .u32 l) 0))] [])))) (.leaf (.ret [.sl n 1 (natG .u32 l)] []))))) (by kernel_rfl) ?_
   simp only [Tree.holds, zd, inR, lo, hi, Bool.cond_eq_ite]
   refine ⟨by simp; omega, fun _ => ⟨by simp; omega, fun _ => ⟨fun h => ?_, fun h => ?_⟩⟩⟩
   ·have hp : 0 < n := by
     rcases Nat.eq_zero_or_pos n with rfl | hp
     ·simp at h
     ·exact hp
    have e : ((n : Int) - 1).toNat = n - 1 := by omega
    have hz : l.getD (n - 1) 0 = 0 := by
     rw [if_pos (by simpa using hp), e] at h
     simpa only [decide_eq_true_eq, Int.natCast_eq_zero] using h
    refine ⟨by omega, fun _ => ⟨by omega, fun _ => ?_⟩⟩
    rw [if_pos trivial]
    refine ⟨⟨n - 1, ?_, by omega⟩, by show n - 1 < n; omega, by simp [S75, eqG, zg, e], by simp, by kernel_rfl, Nat.zero_le _⟩
    rcases Nat.lt_or_ge (n - 1) (tlen l) with h3 | h3
    ·have h4 : tlen l - 1 = n - 1 := by omega
     exact absurd (h4 ▸ hz) (qa l (by omega))
    ·exact h3
   ·have hn : n = tlen l := by
     rcases Nat.lt_or_ge (tlen l) n with h3 | h3
     ·exfalso
      have e : ((n : Int) - 1).toNat = n - 1 := by omega
      rw [if_pos (by simp; omega), e] at h
      have := qU l (n - 1) (by omega)
      simp only [decide_eq_false_iff_not, Int.natCast_eq_zero] at h
      exact h this
     ·omega
    subst hn
    refine ⟨[], rfl, by simp, by simp, by simp [uG], _, [], qf ?_, by simp, rfl, hq⟩
    have := qg l
    simp only [resV, exp2, exp1, exp0, ren0, eqA2, eqA, natS, eqA0, qN, List.length_take, Nat.min_eq_left this, true_and]
    intro j o hj ho
    simp only [natG, List.getD, List.getElem?_take, if_pos hj]
 ·rename_i off n m g
  obtain ⟨l, ⟨hlm, hm, hn, hg, hdl⟩, _, hq⟩ := hq
  obtain ⟨x, hv⟩ : ∃ x, val ((l.drop off).take n) = x := ⟨_, rfl⟩
  replace hq := hq x hv.symm
  subst hlm
  simp only [← hv, ← WY hdl] at hq
  refine qq.leH (hc' := [.arr l.length 1 (natG .u32 l)]) (by simp [hg]) rfl (fn_k (fn := Tryz.f104) (c := Tryz.f104.body.getD .skip) rfl rfl rfl (by simp [uG]) fun O w0 σ0 h0 => ?_)
  refine zc.run hmix zr [0] 400 (T := .leaf (.loop (Prod.fst (lps K104 0)) (Prod.snd (lps K104 0)) [(0, .osl 0 1 off n)] [.arr l.length 1 (natG .u32 l)])) (by kernel_rfl) ?_
  have hget : ∀ j, j < n → ((l.drop off).take n).getD j 0 = l.getD (off + j) 0 := by
   intro j hj
   simp [List.getElem?_take, hj, List.getElem?_drop]
  have htl : tlen ((l.drop off).take n) ≤ n := by
   have := qg ((l.drop off).take n)
   simp at this; omega
  refine zc.loop (ι := {k : Nat // tlen ((l.drop off).take n) ≤ k ∧ k ≤ n}) (fun x => S75o off x.1) (fun _ => [.arr l.length 1 (natG .u32 l)]) (fun x => x.1) ⟨n, htl, Nat.le_refl _⟩ 0 ?_ ?_ (by kernel_rfl)
  ·exact ⟨by simp [S75o], by simp [eqG], by kernel_rfl, Nat.le_refl _⟩
  ·rintro ⟨k, h1, h2⟩
   refine zc.run hmix zr [0] 400 (T := .side (decide ((0 : Int) < k) = true → inR .i64 ((↑k : Int) - (1 : Int))) (.side (decide ((0 : Int) < k) = true → (0 : Int) ≤ k - (1 : Int) ∧ (↑k : Int) - (1 : Int) < k) (.ite (bif decide ((0 : Int) < k) then decide ((↑(List.getD l (off + Int.toNat ((↑k : Int) - (1 : Int))) 0) : Int) = 0) else false) (.side (inR .i64 ((↑k : Int) - (1 : Int))) (.side ((0 : Int) ≤ k - (1 : Int) ∧ (↑k : Int) - (1 : Int) ≤ k) (.leaf (.back 0 [(0, .osl 0 1 (off + 0) (Int.toNat ((↑k : Int) - (1 : Int)) - 0))] [.arr l.length 1 (natG .u32 l)])))) (.leaf (.ret [.osl 0 1 off k] [.arr l.length 1 (natG .u32 l)]))))) (by kernel_rfl) ?_
   simp only [Tree.holds, zd, inR, lo, hi, Bool.cond_eq_ite]
   refine ⟨by simp; omega, fun _ => ⟨by simp; omega, fun _ => ⟨fun h => ?_, fun h => ?_⟩⟩⟩
   ·have hp : 0 < k := by
     rcases Nat.eq_zero_or_pos k with rfl | hp
     ·simp at h
     ·exact hp
    have e : ((k : Int) - 1).toNat = k - 1 := by omega
    have hz : ((l.drop off).take n).getD (k - 1) 0 = 0 := by
     rw [if_pos (by simpa using hp), e] at h
     rw [hget _ (by omega)]
     simpa only [decide_eq_true_eq, Int.natCast_eq_zero] using h
    refine ⟨by omega, fun _ => ⟨by omega, fun _ => ?_⟩⟩
    rw [if_pos trivial]
    refine ⟨⟨k - 1, ?_, by omega⟩, by show k - 1 < k; omega, by simp [S75o, e], by simp [eqG], by kernel_rfl, Nat.le_refl _⟩
    rcases Nat.lt_or_ge (k - 1) (tlen ((l.drop off).take n)) with h3 | h3
    ·have h4 : tlen ((l.drop off).take n) - 1 = k - 1 := by omega
     exact absurd (h4 ▸ hz) (qa _ (by omega))
    ·exact h3
   ·have hn : k = tlen ((l.drop off).take n) := by
     rcases Nat.lt_or_ge (tlen ((l.drop off).take n)) k with h3 | h3
     ·exfalso
      have e : ((k : Int) - 1).toNat = k - 1 := by omega
      rw [if_pos (by simp; omega), e] at h
      have := qU ((l.drop off).take n) (k - 1) (by omega)
      rw [hget _ (by omega)] at this
      simp only [decide_eq_false_iff_not, Int.natCast_eq_zero] at h
      exact h this
     ·omega
    subst hn
    exact ⟨[0], rfl, by simp, by simp, by simp [uG], _, [.arr l.length 1 g], qf (by simp [resV, exp2, exp1, exp0, zq, eqA2]), ⟨⟨rfl, rfl, fun j o hj ho => (hg j o hj ho).symm⟩, trivial⟩, rfl, hq⟩
 ·exact hq.elim
end Go.Proofs.Tryz
end

/- The integers' magnitudes: comparison, subtraction, short division. -/
section
set_option maxRecDepth 100000
open Go Go.Sx Go.Proofs Go.Nov
namespace Go.Proofs.Tryz
attribute [local simp] eqKV eqA eqA0 eqH eqB eqL eqL0
noncomputable def K102 : List Go.Sx.Item := [.code (Tryz.f102.body.getD .skip)]
noncomputable def K107 : List Go.Sx.Item := [.code (Tryz.f107.body.getD .skip)]
def cmp3 (x y : Nat) : Int := if x < y then -1 else if y < x then 1 else 0
def WT : Ctr := ctr2 true (fun x y => fits x ∧ fits y) (fun x y r => r = cmp3 x y) (fun _ _ r => (.int .i64 r, []))
def S73 (x y k : Nat) : KV := [(0, magS x), (1, magS y), (5, .int .i64 ((k : Int) - 1))]
theorem Kq : ze Tryz.prog 102 WT := by
 refine Zf (fn := Tryz.f102) (c := Tryz.f102.body.getD .skip) rfl rfl rfl fun x y hp O w0 Q hq => ?_
 replace hq := hq _ rfl
 obtain ⟨hx, hy⟩ := hp
 simp only [fits] at hx hy
 refine zc.run hmix zr [0, 1, 5] 400 (T := .ite (!decide ((↑(canon x).length : Int) = (↑(canon y).length : Int))) (.side (inR .i64 ((↑(canon x).length : Int) - (↑(canon y).length : Int))) (.leaf (.ret [.int .i64 (max (-1 : Int) (min (1 : Int) ((↑(canon x).length : Int) - (↑(canon y).length : Int))))] []))) (.side (inR .i64 ((↑(canon x).length : Int) - (1 : Int))) (.leaf (.loop (Prod.fst (lps K102 0)) (Prod.snd (lps K102 0)) [(0, .sl (canon x).length 1 (natG .u32 (canon x))), (1, .sl (canon y).length 1 (natG .u32 (canon y))), (5, .int .i64 ((↑(canon x).length : Int) - (1 : Int)))] [])))) (by kernel_rfl) ?_
 simp only [Tree.holds, zd, inR, lo, hi, Bool.cond_eq_ite]
 refine ⟨fun h => ⟨by omega, fun _ => RetR.scal hq rfl ?_⟩, fun h => ⟨by omega, fun _ => ?_⟩⟩
 ·simp only [resV, cmp3]
  congr 1
  have hne : (canon x).length ≠ (canon y).length := by
   simp only [Bool.not_eq_true', decide_eq_false_iff_not] at h
   omega
  rcases Nat.lt_or_gt_of_ne hne with h1 | h1
  ·have := qc h1
   rw [if_pos this]; omega
  ·have := qc h1
   rw [if_neg (by omega), if_pos this]; omega
 ·have hlen : (canon x).length = (canon y).length := by
   simp only [Bool.not_eq_false', decide_eq_true_eq] at h
   omega
  refine zc.loop (ι := {k : Nat // k ≤ (canon x).length ∧ ∀ j, k ≤ j → (canon x).getD j 0 = (canon y).getD j 0}) (fun k => S73 x y k.1) (fun _ => []) (fun k => k.1) ⟨(canon x).length, Nat.le_refl _, fun j hj => by simp [hj, hlen ▸ hj]⟩ 0 ?_ ?_ (by kernel_rfl)
  ·exact ⟨by simp [S73, magS, natS, za], by simp, by kernel_rfl, Nat.zero_le _⟩
  ·rintro ⟨k, h1, h2⟩
   refine zc.run hmix zr [0, 1, 5] 400 (T := .ite (decide ((0 : Int) ≤ k - (1 : Int))) (.side ((0 : Int) ≤ k - (1 : Int) ∧ (↑k : Int) - (1 : Int) < (↑(canon x).length : Int)) (.side ((0 : Int) ≤ k - (1 : Int) ∧ (↑k : Int) - (1 : Int) < (↑(canon y).length : Int)) (.ite (!decide ((↑(List.getD (canon x) (Int.toNat ((↑k : Int) - (1 : Int))) 0) : Int) = (↑(List.getD (canon y) (Int.toNat ((↑k : Int) - (1 : Int))) 0) : Int))) (.side ((0 : Int) ≤ k - (1 : Int) ∧ (↑k : Int) - (1 : Int) < (↑(canon x).length : Int)) (.side ((0 : Int) ≤ k - (1 : Int) ∧ (↑k : Int) - (1 : Int) < (↑(canon y).length : Int)) (.ite (decide ((↑(List.getD (canon x) (Int.toNat ((↑k : Int) - (1 : Int))) 0) : Int) < (↑(List.getD (canon y) (Int.toNat ((↑k : Int) - (1 : Int))) 0) : Int))) (.leaf (.ret [.int .i64 (-1 : Int)] [])) (.leaf (.ret [.int .i64 1] []))))) (.side (inR .i64 ((↑k : Int) - (1 : Int) - (1 : Int))) (.leaf (.back 0 [(0, .sl (canon x).length 1 (natG .u32 (canon x))), (1, .sl (canon y).length 1 (natG .u32 (canon y))), (5, .int .i64 ((↑k : Int) - (1 : Int) - (1 : Int)))] [])))))) (.leaf (.ret [.int .i64 0] []))) (by kernel_rfl) ?_
   simp only [Tree.holds, zd, inR, lo, hi, Bool.cond_eq_ite]
   have e : ((k : Int) - 1).toNat = k - 1 := by omega
   rw [e]
   refine ⟨fun hk => ?_, fun hk => RetR.scal hq rfl ?_⟩
   ·have hk : 0 < k := by simp at hk; omega
    refine ⟨by omega, fun _ => ⟨by omega, fun _ => ⟨fun hne => ⟨by omega, fun _ => ⟨by omega, fun _ => ⟨fun hlt => RetR.scal hq rfl ?_, fun hlt => RetR.scal hq rfl ?_⟩⟩⟩, fun heq => ⟨by omega, fun _ => ?_⟩⟩⟩⟩
    ·have := xl (zj x) hlen (i := k - 1) (fun j hj => h2 j (by omega)) (by simpa using hlt)
     rw [zk, zk] at this
     simp [resV, cmp3, this]
    ·have hgt : (canon y).getD (k - 1) 0 < (canon x).getD (k - 1) 0 := by
      simp only [Bool.not_eq_true', decide_eq_false_iff_not] at hne hlt
      omega
     have := xl (zj y) hlen.symm (i := k - 1) (fun j hj => (h2 j (by omega)).symm) hgt
     rw [zk, zk] at this
     simp only [resV, cmp3]
     rw [if_neg (by omega), if_pos this]
    ·rw [if_pos trivial]
     refine ⟨⟨k - 1, by omega, fun j hj => ?_⟩, by show k - 1 < k; omega, by simp [S73, magS, natS, za]; omega, by simp, by kernel_rfl, Nat.zero_le _⟩
     rcases Nat.lt_or_ge j k with hj2 | hj2
     ·have : j = k - 1 := by omega
      subst this
      simp only [Bool.not_eq_false', decide_eq_true_eq] at heq
      omega
     ·exact h2 j hj2
   ·have hk : k = 0 := by simp at hk; omega
    subst hk
    have : canon x = canon y := by
     apply List.ext_getElem hlen
     intro j hj hj'
     have := h2 j (Nat.zero_le _)
     simpa [hj, hj'] using this
    have : x = y := by rw [← zk x, this, zk]
    subst this
    simp [resV, cmp3]
noncomputable def G1 : Nat → Option Ctr := fun f => if f = 104 then some (uG) else none
theorem Zr : ∀ g c, G1 g = some c → ze Tryz.prog g c := okIf JB (zn)
def zay : Ctr := ctr2 true (fun x y => fits x ∧ y ≤ x) (fun x y d => d = x - y) (fun _ _ d => (magS d, []))
def S78 (x y : Nat) (o : List Nat) (c i : Nat) : KV := [(0, magS x), (1, magS y), (5, .osl 0 1 0 o.length), (6, .int .u32 (c : Int)), (13, magS x), (14, .int .i64 ((canon x).length : Int)), (15, .int .i64 (i : Int))]
structure I78 (x y : Nat) where
 o : List Nat
 c : Nat
 i : Nat
 len : o.length = i
 le : i ≤ (canon x).length
 dg : dig o
 c1 : c ≤ 1
 eq : val ((canon x).take i) + B ^ i * c = val o + val ((canon y).take i)
theorem JN {x y : Nat} (h : x ≤ y) : (canon x).length ≤ (canon y).length := by
 rcases Nat.lt_or_ge (canon y).length (canon x).length with h1 | h1
 ·have := qc h1; omega
 ·exact h1
theorem zfo {x y o c i d c' : Nat} {l m : List Nat} (h : val (l.take i) + B ^ i * c = o + val (m.take i)) (he : l.getD i 0 + B * c' = d + m.getD i 0 + c) : val (l.take (i + 1)) + B ^ (i + 1) * c' = o + B ^ i * d + val (m.take (i + 1)) := by
 rw [zp, zp, Nat.pow_succ]
 have := congrArg (B ^ i * ·) he
 simp only [Nat.mul_add] at this
 rw [Nat.mul_assoc]
 omega
theorem zbs (l : List Nat) (d : Nat) : val (l ++ [d]) = val l + B ^ l.length * d := by rw [z2]; simp [val]
theorem UH : ze Tryz.prog 107 zay := by
 refine Zf (fn := Tryz.f107) (c := Tryz.f107.body.getD .skip) rfl rfl rfl fun x y hp O w0 Q hq => ?_
 replace hq := hq _ rfl
 obtain ⟨hx, hyx⟩ := hp
 simp only [fits] at hx hyx
 have hlen := JN hyx
 refine zc.run hmix Zr [0, 1, 5, 6, 13, 14, 15] 400 (T := .side ((0 : Int) ≤ 0 ∧ (0 : Int) ≤ (↑(canon x).length : Int) ∧ inR .i64 (↑(canon x).length : Int) ∧ Int.toNat (↑(canon x).length : Int) * 4 ≤ 140737488355328) (.leaf (.loop (Prod.fst (lps K107 0)) (Prod.snd (lps K107 0)) [(0, .sl (canon x).length 1 (natG .u32 (canon x))), (1, .sl (canon y).length 1 (natG .u32 (canon y))), (5, .osl 0 1 0 0), (6, .int .u32 0), (13, .sl (canon x).length 1 (natG .u32 (canon x))), (14, .int .i64 (↑(canon x).length : Int)), (15, .int .i64 0)] [.arr 0 1 (kP [.int .u32 0])]))) (by kernel_rfl) ?_
 simp only [Tree.holds, zd, inR, lo, hi]
 refine ⟨by omega, fun _ => ?_⟩
 refine zc.loop (ι := I78 x y) (fun s => S78 x y s.o s.c s.i) (fun s => [.arr s.o.length 1 (natG .u32 s.o)]) (fun s => (canon x).length - s.i) ⟨[], 0, 0, rfl, Nat.zero_le _, by simp [dig], by omega, by simp [val]⟩ 0 ?_ ?_ (by kernel_rfl)
 ·exact ⟨by simp [S78, magS, natS, za], by simp [eqG], by kernel_rfl, Nat.zero_le _⟩
 ·rintro ⟨o, c, i, ho, hle, hd, hc, he⟩
  subst ho
  have hB : B = 1000000000 := rfl
  refine zc.run hmix Zr [0, 1, 5, 6, 13, 14, 15] 400 (T := .ite (decide ((↑o.length : Int) < (↑(canon x).length : Int))) (.side ((0 : Int) ≤ o.length ∧ (↑o.length : Int) < (↑(canon x).length : Int)) (.ite (decide ((↑o.length : Int) < (↑(canon y).length : Int))) (.side ((0 : Int) ≤ o.length ∧ (↑o.length : Int) < (↑(canon y).length : Int)) (.side (inR .u32 ((↑c : Int) + (↑(List.getD (canon y) (Int.toNat (↑o.length : Int)) 0) : Int))) (.ite (decide ((↑(List.getD (canon x) (Int.toNat (↑o.length : Int)) 0) : Int) < c + (↑(List.getD (canon y) (Int.toNat (↑o.length : Int)) 0) : Int))) (.side (inR .u32 ((↑(List.getD (canon x) (Int.toNat (↑o.length : Int)) 0) : Int) + (1000000000 : Int))) (.side (inR .u32 ((↑(List.getD (canon x) (Int.toNat (↑o.length : Int)) 0) : Int) + (1000000000 : Int) - ((↑c : Int) + (↑(List.getD (canon y) (Int.toNat (↑o.length : Int)) 0) : Int)))) (.side (0 = 0 ∧ o.length ≤ o.length ∧ (o.length + 1) * 4 ≤ 140737488355328) (.side (inR .i64 ((↑o.length : Int) + (1 : Int))) (.leaf (.back 0 [(0, .sl (canon x).length 1 (natG .u32 (canon x))), (1, .sl (canon y).length 1 (natG .u32 (canon y))), (5, .osl 0 1 0 (o.length + 1)), (6, .int .u32 1), (13, .sl (canon x).length 1 (natG .u32 (canon x))), (14, .int .i64 (↑(canon x).length : Int)), (15, .int .i64 ((↑o.length : Int) + (1 : Int)))] [.arr (o.length + 1) 1 (appG o.length (natG .u32 o) (zg (zf 1 [.int .u32 ((↑(List.getD (canon x) (Int.toNat (↑o.length : Int)) 0) : Int) + (1000000000 : Int) - ((↑c : Int) + (↑(List.getD (canon y) (Int.toNat (↑o.length : Int)) 0) : Int)))]) 0)), .arr 1 1 (zf 1 [.int .u32 ((↑(List.getD (canon x) (Int.toNat (↑o.length : Int)) 0) : Int) + (1000000000 : Int) - ((↑c : Int) + (↑(List.getD (canon y) (Int.toNat (↑o.length : Int)) 0) : Int)))])])))))) (.side (inR .u32 ((↑(List.getD (canon x) (Int.toNat (↑o.length : Int)) 0) : Int) - ((↑c : Int) + (↑(List.getD (canon y) (Int.toNat (↑o.length : Int)) 0) : Int)))) (.side (0 = 0 ∧ o.length ≤ o.length ∧ (o.length + 1) * 4 ≤ 140737488355328) (.side (inR .i64 ((↑o.length : Int) + (1 : Int))) (.leaf (.back 0 [(0, .sl (canon x).length 1 (natG .u32 (canon x))), (1, .sl (canon y).length 1 (natG .u32 (canon y))), (5, .osl 0 1 0 (o.length + 1)), (6, .int .u32 0), (13, .sl (canon x).length 1 (natG .u32 (canon x))), (14, .int .i64 (↑(canon x).length : Int)), (15, .int .i64 ((↑o.length : Int) + (1 : Int)))] [.arr (o.length + 1) 1 (appG o.length (natG .u32 o) (zg (zf 1 [.int .u32 ((↑(List.getD (canon x) (Int.toNat (↑o.length : Int)) 0) : Int) - ((↑c : Int) + (↑(List.getD (canon y) (Int.toNat (↑o.length : Int)) 0) : Int)))]) 0)), .arr 1 1 (zf 1 [.int .u32 ((↑(List.getD (canon x) (Int.toNat (↑o.length : Int)) 0) : Int) - ((↑c : Int) + (↑(List.getD (canon y) (Int.toNat (↑o.length : Int)) 0) : Int)))])])))))))) (.ite (decide ((↑(List.getD (canon x) (Int.toNat (↑o.length : Int)) 0) : Int) < c)) (.side (inR .u32 ((↑(List.getD (canon x) (Int.toNat (↑o.length : Int)) 0) : Int) + (1000000000 : Int))) (.side (inR .u32 ((↑(List.getD (canon x) (Int.toNat (↑o.length : Int)) 0) : Int) + (1000000000 : Int) - c)) (.side (0 = 0 ∧ o.length ≤ o.length ∧ (o.length + 1) * 4 ≤ 140737488355328) (.side (inR .i64 ((↑o.length : Int) + (1 : Int))) (.leaf (.back 0 [(0, .sl (canon x).length 1 (natG .u32 (canon x))), (1, .sl (canon y).length 1 (natG .u32 (canon y))), (5, .osl 0 1 0 (o.length + 1)), (6, .int .u32 1), (13, .sl (canon x).length 1 (natG .u32 (canon x))), (14, .int .i64 (↑(canon x).length : Int)), (15, .int .i64 ((↑o.length : Int) + (1 : Int)))] [.arr (o.length + 1) 1 (appG o.length (natG .u32 o) (zg (zf 1 [.int .u32 ((↑(List.getD (canon x) (Int.toNat (↑o.length : Int)) 0) : Int) + (1000000000 : Int) - c)]) 0)), .arr 1 1 (zf 1 [.int .u32 ((↑(List.getD (canon x) (Int.toNat (↑o.length : Int)) 0) : Int) + (1000000000 : Int) - c)])])))))) (.side (inR .u32 ((↑(List.getD (canon x) (Int.toNat (↑o.length : Int)) 0) : Int) - c)) (.side (0 = 0 ∧ o.length ≤ o.length ∧ (o.length + 1) * 4 ≤ 140737488355328) (.side (inR .i64 ((↑o.length : Int) + (1 : Int))) (.leaf (.back 0 [(0, .sl (canon x).length 1 (natG .u32 (canon x))), (1, .sl (canon y).length 1 (natG .u32 (canon y))), (5, .osl 0 1 0 (o.length + 1)), (6, .int .u32 0), (13, .sl (canon x).length 1 (natG .u32 (canon x))), (14, .int .i64 (↑(canon x).length : Int)), (15, .int .i64 ((↑o.length : Int) + (1 : Int)))] [.arr (o.length + 1) 1 (appG o.length (natG .u32 o) (zg (zf 1 [.int .u32 ((↑(List.getD (canon x) (Int.toNat (↑o.length : Int)) 0) : Int) - c)]) 0)), .arr 1 1 (zf 1 [.int .u32 ((↑(List.getD (canon x) (Int.toNat (↑o.length : Int)) 0) : Int) - c)])])))))))) (.ex (fun (u : List Nat) => u.length = o.length ∧ 0 + o.length ≤ o.length ∧ o.length < 4611686018427387904 ∧ eqG o.length 1 (natG .u32 o) (natG .u32 u) ∧ dig (List.take o.length (List.drop 0 u))) fun n => .all (fun (x : Nat) => x = val (List.take o.length (List.drop 0 n))) fun n => .leaf (.ret [.osl 0 1 0 (canon n).length] [.arr o.length 1 (natG .u32 o)]))) (by kernel_rfl) ?_
  simp only [Tree.holds, zd, inR, lo, hi, Int.toNat_natCast, yU]
  have ha := zE (zj x) o.length
  have hb := zE (zj y) o.length
  have hnext : ∀ d c' : Nat, d < B → c' ≤ 1 → o.length < (canon x).length → (canon x).getD o.length 0 + B * c' = d + (canon y).getD o.length 0 + c →
    ∃ s : I78 x y, s.o = o ++ [d] ∧ s.c = c' ∧ s.i = o.length + 1 := fun d c' h1 h2 h3 h4 =>
   ⟨⟨o ++ [d], c', o.length + 1, by simp, h3, q5.2 ⟨hd, by simp [dig, h1]⟩, h2, by rw [zbs]; exact zfo (x := x) (y := y) he h4⟩, rfl, rfl, rfl⟩
  refine ⟨fun hlt => ?_, fun hge => ?_⟩
  ·have hlt : o.length < (canon x).length := by simp at hlt; omega
   refine ⟨by omega, fun _ => ⟨fun hb2 => ⟨by simp at hb2; omega, fun _ => ⟨by omega, fun _ => ⟨fun hlt2 => ?_, fun hge2 => ?_⟩⟩⟩, fun hb2 => ⟨fun hlt2 => ?_, fun hge2 => ?_⟩⟩⟩
   ·simp only [decide_eq_true_eq] at hlt2
    refine ⟨by omega, fun _ => ⟨by omega, fun _ => ⟨⟨trivial, by omega, by omega⟩, fun _ => ⟨by omega, fun _ => ?_⟩⟩⟩⟩
    obtain ⟨s, h1, h2, h3⟩ := hnext ((canon x).getD o.length 0 + B - (c + (canon y).getD o.length 0)) 1 (by omega) (by omega) hlt (by omega)
    rw [if_pos trivial]
    refine ⟨s, by show _ - s.i < _; omega, by simp [S78, h1, h2, h3, magS, natS, za], by rw [h1]; exact jw (by omega), by kernel_rfl, Nat.zero_le _⟩
   ·simp only [decide_eq_false_iff_not] at hge2
    refine ⟨by omega, fun _ => ⟨⟨trivial, by omega, by omega⟩, fun _ => ⟨by omega, fun _ => ?_⟩⟩⟩
    obtain ⟨s, h1, h2, h3⟩ := hnext ((canon x).getD o.length 0 - (c + (canon y).getD o.length 0)) 0 (by omega) (by omega) hlt (by omega)
    rw [if_pos trivial]
    refine ⟨s, by show _ - s.i < _; omega, by simp [S78, h1, h2, h3, magS, natS, za], by rw [h1]; exact jw (by omega), by kernel_rfl, Nat.zero_le _⟩
   ·simp only [decide_eq_true_eq, decide_eq_false_iff_not] at hlt2 hb2
    have hb0 : (canon y).getD o.length 0 = 0 := by simp [List.getD, List.getElem?_eq_none (show (canon y).length ≤ o.length by omega)]
    refine ⟨by omega, fun _ => ⟨by omega, fun _ => ⟨⟨trivial, by omega, by omega⟩, fun _ => ⟨by omega, fun _ => ?_⟩⟩⟩⟩
    obtain ⟨s, h1, h2, h3⟩ := hnext ((canon x).getD o.length 0 + B - c) 1 (by omega) (by omega) hlt (by omega)
    rw [if_pos trivial]
    refine ⟨s, by show _ - s.i < _; omega, by simp [S78, h1, h2, h3, magS, natS, za], by rw [h1]; exact jw (by omega), by kernel_rfl, Nat.zero_le _⟩
   ·simp only [decide_eq_false_iff_not] at hge2 hb2
    have hb0 : (canon y).getD o.length 0 = 0 := by simp [List.getD, List.getElem?_eq_none (show (canon y).length ≤ o.length by omega)]
    refine ⟨by omega, fun _ => ⟨⟨trivial, by omega, by omega⟩, fun _ => ⟨by omega, fun _ => ?_⟩⟩⟩
    obtain ⟨s, h1, h2, h3⟩ := hnext ((canon x).getD o.length 0 - c) 0 (by omega) (by omega) hlt (by omega)
    rw [if_pos trivial]
    refine ⟨s, by show _ - s.i < _; omega, by simp [S78, h1, h2, h3, magS, natS, za], by rw [h1]; exact jw (by omega), by kernel_rfl, Nat.zero_le _⟩
  ·have hge : o.length = (canon x).length := by simp at hge; omega
   have hv : val o = x - y := by
    have h1 := zM hd
    rw [hge, List.take_length, List.take_of_length_le hlen, zk, zk] at he
    have : c = 0 := by
     rcases Nat.lt_or_ge c 1 with h | h
     ·omega
     ·have : c = 1 := by omega
      subst this
      rw [hge] at h1
      omega
    subst this
    omega
   refine ⟨o, ⟨rfl, by omega, by omega, za _ _ _, by simpa using hd⟩, ⟨_, rfl⟩, ?_⟩
   intro X hX
   have hX : X = x - y := by simpa [hv] using hX
   subst hX
   have htr : qN o = canon (x - y) := by rw [zP hd, hv]
   have htl : (canon (x - y)).length = tlen o := by rw [← htr, qN, List.length_take]; have := qg o; omega
   rw [htl]
   refine ⟨[], rfl, by simp, by simp, fun _ => ⟨Wm, by simp⟩, magS (x - y), [], qf ?_, by simp [expH], rfl, hq⟩
   simp only [resV, exp2, exp1, Wk]
   exact QV htr
end Go.Proofs.Tryz
end

/- The integers' magnitudes: short division, the guess of a digit, products. -/
section
set_option maxRecDepth 100000
open Go Go.Sx Go.Proofs Go.Nov
namespace Go.Proofs.Tryz
attribute [local simp] eqKV eqA eqA0 eqH eqB eqL eqL0
noncomputable def K103 : List Go.Sx.Item := [.code (Tryz.f103.body.getD .skip)]
noncomputable def K106 : List Go.Sx.Item := [.code (Tryz.f106.body.getD .skip)]
theorem Xx (m n : Nat) : Int.tdiv (m : Int) (n : Int) = ((m / n : Nat) : Int) := rfl
theorem KO (m n : Nat) : Int.tmod (m : Int) (n : Int) = ((m % n : Nat) : Int) := rfl
theorem ug (k : IntKind) (n : Nat) : eqG n 1 (kP [.int k 0]) (natG k (List.replicate n 0)) := by
 intro j o hj ho
 have : o = 0 := by omega
 subst this
 simp [kP, natG, hj]
theorem WZ {l : List Nat} {k : Nat} (hk : k < l.length) : l.drop k = l.getD k 0 :: l.drop (k + 1) := by
 rw [List.drop_eq_getElem_cons hk]
 simp [List.getD, hk]
def Uh : Ctr := ctrP true (fun p : Nat × Nat => [magS p.1, .int .u32 (p.2 : Int)]) (fun p => fits p.1 ∧ 0 < p.2 ∧ p.2 < B) (fun p (r : Nat × Nat) => r = (p.1 / p.2, p.1 % p.2)) (fun _ r => (.tup [magS r.1, .int .u32 (r.2 : Int)], []))
def S74 (x d : Nat) (o : List Nat) (r k : Nat) : KV := [(0, magS x), (1, .int .u32 (d : Int)), (4, .osl 0 1 0 o.length), (6, .int .u64 (r : Int)), (7, .int .i64 ((k : Int) - 1))]
structure I74 (x d : Nat) where
 o : List Nat
 r : Nat
 k : Nat
 len : o.length = (canon x).length
 le : k ≤ (canon x).length
 rd : r < d
 dg : dig (o.drop k)
 eq : val ((canon x).drop k) = d * val (o.drop k) + r
theorem Uv : ze Tryz.prog 103 Uh := by
 refine zh (fn := Tryz.f103) (c := Tryz.f103.body.getD .skip) rfl rfl rfl fun p hp O w0 Q hq => ?_
 replace hq := hq _ rfl
 obtain ⟨x, d⟩ := p
 obtain ⟨hx, hd0, hdB⟩ := hp
 simp only [fits] at hx hd0 hdB hq
 have hB : B = 1000000000 := rfl
 refine zc.run hmix Zr [0, 1, 4, 6, 7] 400 (T := .side ((0 : Int) ≤ (↑(canon x).length : Int) ∧ (↑(canon x).length : Int) ≤ (↑(canon x).length : Int) ∧ inR .i64 (↑(canon x).length : Int) ∧ Int.toNat (↑(canon x).length : Int) * 4 ≤ 140737488355328) (.side (inR .i64 ((↑(canon x).length : Int) - (1 : Int))) (.leaf (.loop (Prod.fst (lps K103 0)) (Prod.snd (lps K103 0)) [(0, .sl (canon x).length 1 (natG .u32 (canon x))), (1, .int .u32 d), (4, .osl 0 1 0 (Int.toNat (↑(canon x).length : Int))), (6, .int .u64 0), (7, .int .i64 ((↑(canon x).length : Int) - (1 : Int)))] [.arr (Int.toNat (↑(canon x).length : Int)) 1 (kP [.int .u32 0])])))) (by kernel_rfl) ?_
 simp only [Tree.holds, zd, inR, lo, hi]
 refine ⟨by omega, fun _ => ⟨by omega, fun _ => ?_⟩⟩
 refine zc.loop (ι := I74 x d) (fun s => S74 x d s.o s.r s.k) (fun s => [.arr s.o.length 1 (natG .u32 s.o)]) (fun s => s.k) ⟨List.replicate (canon x).length 0, 0, (canon x).length, by simp, Nat.le_refl _, hd0, by simp [dig], by simp [val]⟩ 0 ?_ ?_ (by kernel_rfl)
 ·exact ⟨by simp [S74, magS, natS, za], by simp [ug], by kernel_rfl, Nat.zero_le _⟩
 ·rintro ⟨o, r, k, hlen, hle, hr, hdg, he⟩
  refine zc.run hmix Zr [0, 1, 4, 6, 7] 400 (T := .ite (decide ((0 : Int) ≤ k - (1 : Int))) (.side (inR .u64 ((↑r : Int) * (1000000000 : Int))) (.side ((0 : Int) ≤ k - (1 : Int) ∧ (↑k : Int) - (1 : Int) < (↑(canon x).length : Int)) (.side (inR .u64 (↑(List.getD (canon x) (Int.toNat ((↑k : Int) - (1 : Int))) 0) : Int)) (.side (inR .u64 ((↑r : Int) * (1000000000 : Int) + (↑(List.getD (canon x) (Int.toNat ((↑k : Int) - (1 : Int))) 0) : Int))) (.side (inR .u64 (↑d : Int)) (.side ((↑d : Int) ≠ 0 ∧ inR .u64 (Int.tdiv ((↑r : Int) * (1000000000 : Int) + (↑(List.getD (canon x) (Int.toNat ((↑k : Int) - (1 : Int))) 0) : Int)) (↑d : Int))) (.side (inR .u32 (Int.tdiv ((↑r : Int) * (1000000000 : Int) + (↑(List.getD (canon x) (Int.toNat ((↑k : Int) - (1 : Int))) 0) : Int)) (↑d : Int))) (.side (inR .u64 (↑d : Int)) (.side ((↑d : Int) ≠ 0) (.side ((0 : Int) ≤ k - (1 : Int) ∧ (↑k : Int) - (1 : Int) < o.length) (.side (inR .i64 ((↑k : Int) - (1 : Int) - (1 : Int))) (.leaf (.back 0 [(0, .sl (canon x).length 1 (natG .u32 (canon x))), (1, .int .u32 d), (4, .osl 0 1 0 o.length), (6, .int .u64 (Int.tmod ((↑r : Int) * (1000000000 : Int) + (↑(List.getD (canon x) (Int.toNat ((↑k : Int) - (1 : Int))) 0) : Int)) (↑d : Int))), (7, .int .i64 ((↑k : Int) - (1 : Int) - (1 : Int)))] [.arr o.length 1 (updG (natG .u32 o) (0 + Int.toNat ((↑k : Int) - (1 : Int))) 0 [.int .u32 (Int.tdiv ((↑r : Int) * (1000000000 : Int) + (↑(List.getD (canon x) (Int.toNat ((↑k : Int) - (1 : Int))) 0) : Int)) (↑d : Int))])]))))))))))))) (.ex (fun (u : List Nat) => u.length = o.length ∧ 0 + o.length ≤ o.length ∧ o.length < 4611686018427387904 ∧ eqG o.length 1 (natG .u32 o) (natG .u32 u) ∧ dig (List.take o.length (List.drop 0 u))) fun n => .all (fun (x : Nat) => x = val (List.take o.length (List.drop 0 n))) fun n => .side (inR .u32 (↑r : Int)) (.leaf (.ret [.osl 0 1 0 (canon n).length, .int .u32 r] [.arr o.length 1 (natG .u32 o)])))) (by kernel_rfl) ?_
  have e : ((k : Int) - 1).toNat = k - 1 := by omega
  have ha := zE (zj x) (k - 1)
  have ev : ((r : Int) * 1000000000 + ((canon x).getD (k - 1) 0 : Nat)) = ((r * B + (canon x).getD (k - 1) 0 : Nat) : Int) := by simp
  simp only [Tree.holds, zd, inR, lo, hi, e, ev, Xx, KO, yU]
  generalize hv : r * B + (canon x).getD (k - 1) 0 = v
  have hvd : v < d * B := by
   have : (r + 1) * B ≤ d * B := Nat.mul_le_mul_right _ hr
   rw [Nat.add_mul] at this
   omega
  have hq1 : v / d < B := Nat.div_lt_of_lt_mul hvd
  have hr1 : v % d < d := Nat.mod_lt _ hd0
  have hdm := Nat.div_add_mod v d
  generalize v / d = q at hq1 hdm ⊢
  generalize v % d = rr at hr1 hdm ⊢
  have hdB2 : d * B < B * B := Nat.mul_lt_mul_of_pos_right hdB (by decide)
  rw [hB] at hdB2
  refine ⟨fun hk => ?_, fun hk => ?_⟩
  ·have hk : 0 < k := by simp at hk; omega
   refine ⟨by omega, fun _ => ⟨by omega, fun _ => ⟨by omega, fun _ => ⟨by omega, fun _ => ⟨by omega, fun _ => ⟨⟨by omega, by omega, by omega⟩, fun _ => ⟨by omega, fun _ => ⟨by omega, fun _ => ⟨by omega, fun _ => ⟨by omega, fun _ => ⟨by omega, fun _ => ?_⟩⟩⟩⟩⟩⟩⟩⟩⟩⟩⟩
   rw [if_pos trivial]
   have hkl : k - 1 < o.length := by omega
   have hdr : (o.set (k - 1) (q)).drop (k - 1) = (q) :: o.drop k := by
    rw [WZ (by simpa using hkl)]
    rw [show k - 1 + 1 = k by omega, List.drop_set_of_lt (by omega)]
    simp [hkl]
   refine ⟨⟨o.set (k - 1) (q), rr, k - 1, by simpa using hlen, by omega, hr1, by rw [hdr]; exact qe.2 ⟨hq1, hdg⟩, ?_⟩, by show k - 1 < k; omega, by simp [S74, magS, natS, za]; omega, ?_, by kernel_rfl, Nat.zero_le _⟩
   ·rw [hdr, WZ (by omega), show k - 1 + 1 = k by omega]
    simp only [val, he]
    rw [Nat.mul_add, Nat.mul_add, ← Nat.mul_assoc, ← Nat.mul_assoc, Nat.mul_comm d B]
    have h5 : B * r = r * B := Nat.mul_comm _ _
    omega
   ·refine ⟨⟨by simp, rfl, ?_⟩, trivial⟩
    have := wz (k := .u32) (l := o) (v := ((q : Nat) : Int)) (i := k - 1) (by omega) hkl
    simpa using this
  ·have hk : k = 0 := by simp at hk; omega
   subst hk
   simp only [List.drop_zero] at he hdg
   rw [zk] at he
   have hqv : val o = x / d := by
    rw [he, Nat.mul_add_div hd0, Nat.div_eq_of_lt hr, Nat.add_zero]
   have hrv : r = x % d := by rw [he, Nat.mul_add_mod, Nat.mod_eq_of_lt hr]
   have htr : qN o = canon (x / d) := by rw [zP hdg, hqv]
   refine ⟨o, ⟨rfl, by omega, by omega, za _ _ _, by simpa using hdg⟩, ⟨_, rfl⟩, ?_⟩
   intro X hX
   have hX : X = x / d := by simpa [hqv] using hX
   subst hX
   have htl : (canon (x / d)).length = tlen o := by rw [← htr, qN, List.length_take]; have := qg o; omega
   rw [htl]
   refine ⟨by omega, fun _ => ?_⟩
   refine ⟨[], rfl, by simp, by simp, fun _ => ⟨?_, by simp⟩, _, [], qf ?_, by simp [expH], rfl, hq⟩
   ·simp only [resV, new2]
    intro a ha
    rcases List.mem_cons.1 ha with rfl | ha
    ·exact Wm
    ·simp only [List.mem_singleton] at ha; subst ha; rfl
   ·simp only [resV, exp2, List.map_cons, List.map_nil, exp1, Wk, eqA2, eqL1]
    exact ⟨QV htr, by simp [eqA, exp0, ren0, hrv], trivial⟩
structure D5 where
 t : Nat
 u : Nat
 v : Nat
 y : Nat
 z : Nat
def zbi : Ctr := ctrP true (fun p : D5 => [.int .u64 (p.t : Int), .int .u64 (p.u : Int), .int .u64 (p.v : Int), .int .u64 (p.y : Int), .int .u64 (p.z : Int)])
 (fun p => p.t ≤ p.y ∧ p.u < B ∧ p.v < B ∧ p.y < B ∧ p.z < B ∧ B ≤ 2 * p.y) (fun p n => n = qJ p.v p.y p.z 2 ((p.t * B + p.u) / p.y) ((p.t * B + p.u) % p.y)) (fun _ n => (.int .u64 (n : Int), []))
def S77 (v y z q r : Nat) : KV := [(2, .int .u64 (v : Int)), (3, .int .u64 (y : Int)), (4, .int .u64 (z : Int)), (12, .int .u64 (q : Int)), (13, .int .u64 (r : Int))]
structure I77 (v y z R : Nat) where
 q : Nat
 r : Nat
 n : Nat
 rB : r < B
 qB : q ≤ B + 1
 nB : B ≤ r + n * y
 eq : qJ v y z n q r = R
theorem UR : ze Tryz.prog 106 zbi := by
 refine zh (fn := Tryz.f106) (c := Tryz.f106.body.getD .skip) rfl rfl rfl fun p hp O w0 Q hq => ?_
 replace hq := hq _ rfl
 obtain ⟨t, u, v, y, z⟩ := p
 simp only at hq
 obtain ⟨h1, h2, h3, h4, h5, h6⟩ := hp
 simp only at h1 h2 h3 h4 h5 h6
 have hB : B = 1000000000 := rfl
 refine zc.run hmix zr [2, 3, 4, 12, 13] 400 (T := .side (inR .u64 ((↑t : Int) * (1000000000 : Int))) (.side (inR .u64 ((↑t : Int) * (1000000000 : Int) + u)) (.side ((↑y : Int) ≠ 0 ∧ inR .u64 (Int.tdiv ((↑t : Int) * (1000000000 : Int) + u) (↑y : Int))) (.side ((↑y : Int) ≠ 0) (.leaf (.loop (Prod.fst (lps K106 0)) (Prod.snd (lps K106 0)) [(2, .int .u64 v), (3, .int .u64 y), (4, .int .u64 z), (12, .int .u64 (Int.tdiv ((↑t : Int) * (1000000000 : Int) + u) (↑y : Int))), (13, .int .u64 (Int.tmod ((↑t : Int) * (1000000000 : Int) + u) (↑y : Int)))] [])))))) (by kernel_rfl) ?_
 have ev : ((t : Int) * 1000000000 + (u : Int)) = ((t * B + u : Nat) : Int) := by simp
 simp only [Tree.holds, zd, inR, lo, hi, ev, Xx, KO]
 have hy : 0 < y := by omega
 have hr : (t * B + u) % y < y := Nat.mod_lt _ hy
 have hq1 : (t * B + u) / y ≤ B + 1 := by
  have h7 : t * B ≤ y * B := Nat.mul_le_mul_right _ h1
  have : (t * B + u) / y < B + 2 := by
   apply Nat.div_lt_of_lt_mul
   rw [Nat.mul_add]
   omega
  omega
 have hst : t * 1000000000 ≤ 1000000000 * 1000000000 := Nat.mul_le_mul_right _ (by omega)
 generalize hR : qJ v y z 2 ((t * B + u) / y) ((t * B + u) % y) = R at hq
 generalize hqq : (t * B + u) / y = q at hq1 hR ⊢
 generalize hrr : (t * B + u) % y = r at hr hR ⊢
 refine ⟨by omega, fun _ => ⟨by omega, fun _ => ⟨⟨by omega, by omega, by omega⟩, fun _ => ⟨by omega, fun _ => ?_⟩⟩⟩⟩
 refine zc.loop (ι := I77 v y z R) (fun s => S77 v y z s.q s.r) (fun _ => []) (fun s => s.n) ⟨q, r, 2, by omega, hq1, by omega, hR⟩ 0 ?_ ?_ (by kernel_rfl)
 ·exact ⟨by simp [S77], by simp, by kernel_rfl, Nat.zero_le _⟩
 ·rintro ⟨q, r, n, hrB, hqB, hnB, hR⟩
  refine zc.run hmix zr [2, 3, 4, 12, 13] 400 (T := .side (decide ((1000000000 : Int) ≤ q) = false → inR .u64 ((↑q : Int) * z)) (.side (decide ((1000000000 : Int) ≤ q) = false → inR .u64 ((↑r : Int) * (1000000000 : Int))) (.side (decide ((1000000000 : Int) ≤ q) = false → inR .u64 ((↑r : Int) * (1000000000 : Int) + v)) (.ite (bif decide ((1000000000 : Int) ≤ q) then true else decide ((↑r : Int) * (1000000000 : Int) + v < (↑q : Int) * z)) (.side (inR .u64 ((↑q : Int) - (1 : Int))) (.side (inR .u64 ((↑r : Int) + y)) (.ite (decide ((1000000000 : Int) ≤ r + (↑y : Int))) (.leaf (.ret [.int .u64 ((↑q : Int) - (1 : Int))] [])) (.leaf (.back 0 [(2, .int .u64 v), (3, .int .u64 y), (4, .int .u64 z), (12, .int .u64 ((↑q : Int) - (1 : Int))), (13, .int .u64 ((↑r : Int) + y))] []))))) (.leaf (.ret [.int .u64 q] [])))))) (by kernel_rfl) ?_
  simp only [Tree.holds, zd, inR, lo, hi, Bool.cond_eq_ite]
  have hqz : q * z ≤ 1000000001 * 1000000000 := Nat.mul_le_mul (by omega) (by omega)
  have eqz : ((q : Int) * (z : Int)) = ((q * z : Nat) : Int) := by simp
  rw [eqz]
  have hrb : r * B = 1000000000 * r := Nat.mul_comm _ _
  generalize hp : q * z = p at hqz ⊢
  refine ⟨fun _ => by omega, fun _ => ⟨fun _ => by omega, fun _ => ⟨fun _ => by omega, fun _ => ⟨fun hc => ?_, fun hc => ?_⟩⟩⟩⟩
  ·have hcond : B ≤ q ∨ r * B + v < q * z := by
    rw [hp]
    split at hc
    ·rename_i h; simp only [decide_eq_true_eq] at h; left; omega
    ·simp only [decide_eq_true_eq] at hc; right; omega
   have hq0 : 0 < q := by
    rcases Nat.eq_zero_or_pos q with rfl | h
    ·simp at hcond
    ·exact h
   cases n with
   | zero => omega
   | succ n =>
    simp only [qJ, if_pos hcond] at hR
    refine ⟨by omega, fun _ => ⟨by omega, fun _ => ⟨fun hb => ?_, fun hb => ?_⟩⟩⟩
    ·rw [if_pos (by simp at hb; omega)] at hR
     refine RetR.scal hq rfl ?_
     simp only [resV]; congr 1; omega
    ·rw [if_neg (by simp at hb; omega)] at hR
     rw [if_pos trivial]
     refine ⟨⟨q - 1, r + y, n, by simp at hb; omega, by omega, by rw [Nat.add_mul] at hnB; omega, hR⟩, by show n < n + 1; omega, by simp [S77]; omega, by simp, by kernel_rfl, Nat.zero_le _⟩
  ·have hcond : ¬ (B ≤ q ∨ r * B + v < q * z) := by
    rw [hp]
    split at hc
    ·cases hc
    ·rename_i h; simp only [decide_eq_true_eq, decide_eq_false_iff_not] at h hc; omega
   refine RetR.scal hq rfl ?_
   have : qJ v y z n q r = q := by
    cases n with
    | zero => rfl
    | succ n => simp only [qJ, if_neg hcond]
   simp only [resV]; congr 1; omega
end Go.Proofs.Tryz
end

/- The integers' magnitudes: products. -/
section
set_option maxRecDepth 100000
open Go Go.Sx Go.Proofs Go.Nov
namespace Go.Proofs.Tryz
attribute [local simp] eqKV eqA eqA0 eqH eqB eqL eqL0
noncomputable def K105 : List Go.Sx.Item := [.code (Tryz.f105.body.getD .skip)]
theorem heap_set {k : IntKind} {o : List Nat} {v : Int} {i d i' : Nat} (hv : v = d) (hi : i < o.length) (hi' : i' = i) : eqH [.arr o.length 1 (updG (natG k o) i' 0 [.int k v])] [.arr (o.set i d).length 1 (natG k (o.set i d))] := by
 subst hv
 subst hi'
 refine ⟨⟨by simp, rfl, ?_⟩, by simp [eqH]⟩
 have := wz (k := k) (l := o) (v := (d : Int)) (by omega) hi
 simpa using this
def zc0 : Ctr := ctr2 true (fun x y => fits x ∧ fits y)
 (fun x y p => p = x * y) (fun x y p => (.osl 0 1 0 (canon p).length, [.arr ((canon x).length + (canon y).length) 1 (natG .u32 (padN ((canon x).length + (canon y).length) p))]))
def S76 (x y i : Nat) (o : List Nat) : KV := [(0, magS x), (1, magS y), (5, .osl 0 1 0 o.length), (6, .undef), (7, .undef), (8, .undef), (18, magS x), (19, .int .i64 ((canon x).length : Nat)), (20, .int .i64 (i : Int)), (25, .undef), (26, .undef), (27, .undef)]
def S76b (x y i j c : Nat) (o : List Nat) : KV := [(0, magS x), (1, magS y), (5, .osl 0 1 0 o.length), (6, .int .i64 (i : Int)), (7, .int .u32 ((canon x).getD i 0 : Nat)), (8, .int .u64 (c : Int)), (18, magS x), (19, .int .i64 ((canon x).length : Nat)), (20, .int .i64 (i : Int)), (25, magS y), (26, .int .i64 ((canon y).length : Nat)), (27, .int .i64 (j : Int))]
structure I76 (x y : Nat) where
 o : List Nat
 i : Nat
 len : o.length = (canon x).length + (canon y).length
 le : i ≤ (canon x).length
 dg : dig o
 eq : val o = val ((canon x).take i) * y
structure I76b (x y i V : Nat) where
 o : List Nat
 c : Nat
 j : Nat
 len : o.length = (canon x).length + (canon y).length
 le : j ≤ (canon y).length
 dg : dig o
 cB : c < B
 z : ∀ p, i + (canon y).length ≤ p → o.getD p 0 = 0
 eq : val o + B ^ i * B ^ j * c = V + B ^ i * (canon x).getD i 0 * val ((canon y).take j)
theorem Vz {o' Pi Pj op d v a b' c c' V vt vo : Nat} (h1 : o' + Pi*Pj * op = vo + Pi*Pj * d) (h2 : vo + Pi*Pj * c = V + Pi * a * vt) (h3 : B * c' + d = v) (h4 : v = a * b' + op + c) : o' + Pi*(Pj*B) * c' = V + Pi * a * (vt + Pj * b') := by grind
theorem za9 : ze Tryz.prog 105 zc0 := by
 refine Zf (fn := Tryz.f105) (c := Tryz.f105.body.getD .skip) rfl rfl rfl fun x y hp O w0 Q hq => ?_
 replace hq := hq _ rfl
 obtain ⟨hx, hy⟩ := hp
 simp only [fits] at hx hy hq
 have hB : B = 1000000000 := rfl
 refine zc.run hmix Zr [0, 1, 5, 6, 7, 8, 18, 19, 20, 25, 26, 27] 400 (T := .side (inR .i64 ((↑(canon x).length : Int) + (↑(canon y).length : Int))) (.side ((0 : Int) ≤ (↑(canon x).length : Int) + (↑(canon y).length : Int) ∧ (↑(canon x).length : Int) + (↑(canon y).length : Int) ≤ (↑(canon x).length : Int) + (↑(canon y).length : Int) ∧ inR .i64 ((↑(canon x).length : Int) + (↑(canon y).length : Int)) ∧ Int.toNat ((↑(canon x).length : Int) + (↑(canon y).length : Int)) * 4 ≤ 140737488355328) (.leaf (.loop (Prod.fst (lps K105 0)) (Prod.snd (lps K105 0)) [(0, .sl (canon x).length 1 (natG .u32 (canon x))), (1, .sl (canon y).length 1 (natG .u32 (canon y))), (5, .osl 0 1 0 (Int.toNat ((↑(canon x).length : Int) + (↑(canon y).length : Int)))), (6, .undef), (7, .undef), (8, .undef), (18, .sl (canon x).length 1 (natG .u32 (canon x))), (19, .int .i64 (↑(canon x).length : Int)), (20, .int .i64 0), (25, .undef), (26, .undef), (27, .undef)] [.arr (Int.toNat ((↑(canon x).length : Int) + (↑(canon y).length : Int))) 1 (kP [.int .u32 0])])))) (by kernel_rfl) ?_
 simp only [Tree.holds, zd, inR, lo, hi]
 have esum : ((canon x).length : Int) + ((canon y).length : Int) = (((canon x).length + (canon y).length : Nat) : Int) := by omega
 simp only [esum, Int.toNat_natCast]
 refine ⟨by omega, fun _ => ⟨by omega, fun _ => ?_⟩⟩
 refine zc.loop (ι := I76 x y) (fun s => S76 x y s.i s.o) (fun s => [.arr s.o.length 1 (natG .u32 s.o)]) (fun s => (canon x).length - s.i) ⟨List.replicate ((canon x).length + (canon y).length) 0, 0, by simp, Nat.zero_le _, qo _, by simp [qG, val]⟩ 0 ?_ ?_ (by kernel_rfl)
 ·exact ⟨by simp [S76, magS, natS, za], by simp [ug], by kernel_rfl, Nat.zero_le _⟩
 ·rintro ⟨o, i, hlen, hle, hd, he⟩
  refine zc.run hmix Zr [0, 1, 5, 6, 7, 8, 18, 19, 20, 25, 26, 27] 400 (T := .ite (decide ((↑i : Int) < (↑(canon x).length : Int))) (.side ((0 : Int) ≤ i ∧ (↑i : Int) < (↑(canon x).length : Int)) (.leaf (.loop (Prod.fst (lps (inside K105 0) 0)) (Prod.snd (lps (inside K105 0) 0)) [(0, .sl (canon x).length 1 (natG .u32 (canon x))), (1, .sl (canon y).length 1 (natG .u32 (canon y))), (5, .osl 0 1 0 o.length), (6, .int .i64 i), (7, .int .u32 (↑(List.getD (canon x) (Int.toNat (↑i : Int)) 0) : Int)), (8, .int .u64 0), (18, .sl (canon x).length 1 (natG .u32 (canon x))), (19, .int .i64 (↑(canon x).length : Int)), (20, .int .i64 i), (25, .sl (canon y).length 1 (natG .u32 (canon y))), (26, .int .i64 (↑(canon y).length : Int)), (27, .int .i64 0)] [.arr o.length 1 (natG .u32 o)]))) (.ex (fun (u : List Nat) => u.length = o.length ∧ 0 + o.length ≤ o.length ∧ o.length < 4611686018427387904 ∧ eqG o.length 1 (natG .u32 o) (natG .u32 u) ∧ dig (List.take o.length (List.drop 0 u))) fun n => .all (fun (x : Nat) => x = val (List.take o.length (List.drop 0 n))) fun n => .leaf (.ret [.osl 0 1 0 (canon n).length] [.arr o.length 1 (natG .u32 o)]))) (by kernel_rfl) ?_
  simp only [Tree.holds, zd, inR, lo, hi, Int.toNat_natCast, yU]
  have hz : ∀ p, i + (canon y).length ≤ p → o.getD p 0 = 0 := by
   intro p hp
   refine Qv (n := i + (canon y).length) ?_ hp
   rw [he, Nat.pow_add]
   have h1 := zM (q7 (zj x) i)
   have h2 := zM (zj y)
   rw [zk] at h2
   have h3 : B ^ ((canon x).take i).length = B ^ i := by rw [List.length_take, Nat.min_eq_left hle]
   rw [h3] at h1
   exact Nat.mul_lt_mul_of_lt_of_le h1 (Nat.le_of_lt h2) (Nat.pow_pos (by decide))
  refine ⟨fun hlt => ⟨by simp at hlt; omega, fun _ => ?_⟩, fun hge => ?_⟩
  ·have hlt : i < (canon x).length := by simp at hlt; omega
   refine zc.loop (ι := I76b x y i (val o)) (fun s => S76b x y i s.j s.c s.o) (fun s => [.arr s.o.length 1 (natG .u32 s.o)]) (fun s => (canon y).length - s.j) ⟨o, 0, 0, hlen, Nat.zero_le _, hd, by decide, hz, by simp [val]⟩ 1 ?_ ?_ (by kernel_rfl)
   ·exact ⟨by simp [S76b, magS, natS, za], by simp [za], by kernel_rfl, Nat.zero_le _⟩
   ·rintro ⟨o2, c, j, hlen2, hle2, hd2, hcB, hz2, he2⟩
    refine zc.run hmix Zr [0, 1, 5, 6, 7, 8, 18, 19, 20, 25, 26, 27] 400 (T := .ite (decide ((↑j : Int) < (↑(canon y).length : Int))) (.side ((0 : Int) ≤ j ∧ (↑j : Int) < (↑(canon y).length : Int)) (.side (inR .u64 (↑(List.getD (canon x) i 0) : Int)) (.side (inR .u64 (↑(List.getD (canon y) (Int.toNat (↑j : Int)) 0) : Int)) (.side (inR .u64 ((↑(List.getD (canon x) i 0) : Int) * (↑(List.getD (canon y) (Int.toNat (↑j : Int)) 0) : Int))) (.side (inR .i64 ((↑i : Int) + j)) (.side ((0 : Int) ≤ i + (↑j : Int) ∧ (↑i : Int) + j < (↑o2.length : Int)) (.side (inR .u64 (↑(List.getD o2 (0 + Int.toNat ((↑i : Int) + j)) 0) : Int)) (.side (inR .u64 ((↑(List.getD (canon x) i 0) : Int) * (↑(List.getD (canon y) (Int.toNat (↑j : Int)) 0) : Int) + (↑(List.getD o2 (0 + Int.toNat ((↑i : Int) + j)) 0) : Int))) (.side (inR .u64 ((↑(List.getD (canon x) i 0) : Int) * (↑(List.getD (canon y) (Int.toNat (↑j : Int)) 0) : Int) + (↑(List.getD o2 (0 + Int.toNat ((↑i : Int) + j)) 0) : Int) + c)) (.side (inR .i64 ((↑i : Int) + j)) (.side ((1000000000 : Int) ≠ 0) (.side (inR .u32 (Int.tmod ((↑(List.getD (canon x) i 0) : Int) * (↑(List.getD (canon y) (Int.toNat (↑j : Int)) 0) : Int) + (↑(List.getD o2 (0 + Int.toNat ((↑i : Int) + j)) 0) : Int) + c) (1000000000 : Int))) (.side ((1000000000 : Int) ≠ 0 ∧ inR .u64 (Int.tdiv ((↑(List.getD (canon x) i 0) : Int) * (↑(List.getD (canon y) (Int.toNat (↑j : Int)) 0) : Int) + (↑(List.getD o2 (0 + Int.toNat ((↑i : Int) + j)) 0) : Int) + c) (1000000000 : Int))) (.side ((0 : Int) ≤ i + (↑j : Int) ∧ (↑i : Int) + j < (↑o2.length : Int)) (.side (inR .i64 ((↑j : Int) + (1 : Int))) (.leaf (.back 1 [(0, .sl (canon x).length 1 (natG .u32 (canon x))), (1, .sl (canon y).length 1 (natG .u32 (canon y))), (5, .osl 0 1 0 o2.length), (6, .int .i64 i), (7, .int .u32 (↑(List.getD (canon x) i 0) : Int)), (8, .int .u64 (Int.tdiv ((↑(List.getD (canon x) i 0) : Int) * (↑(List.getD (canon y) (Int.toNat (↑j : Int)) 0) : Int) + (↑(List.getD o2 (0 + Int.toNat ((↑i : Int) + j)) 0) : Int) + c) (1000000000 : Int))), (18, .sl (canon x).length 1 (natG .u32 (canon x))), (19, .int .i64 (↑(canon x).length : Int)), (20, .int .i64 i), (25, .sl (canon y).length 1 (natG .u32 (canon y))), (26, .int .i64 (↑(canon y).length : Int)), (27, .int .i64 ((↑j : Int) + (1 : Int)))] [.arr o2.length 1 (updG (natG .u32 o2) (0 + Int.toNat ((↑i : Int) + j)) 0 [.int .u32 (Int.tmod ((↑(List.getD (canon x) i 0) : Int) * (↑(List.getD (canon y) (Int.toNat (↑j : Int)) 0) : Int) + (↑(List.getD o2 (0 + Int.toNat ((↑i : Int) + j)) 0) : Int) + c) (1000000000 : Int))])]))))))))))))))))) (.side (inR .i64 ((↑i : Int) + (↑(canon y).length : Int))) (.side ((0 : Int) ≤ i + (↑(canon y).length : Int) ∧ (↑i : Int) + (↑(canon y).length : Int) < o2.length) (.side (inR .u32 (↑c : Int)) (.side (inR .u32 ((↑(List.getD o2 (0 + Int.toNat ((↑i : Int) + (↑(canon y).length : Int))) 0) : Int) + c)) (.side ((0 : Int) ≤ i + (↑(canon y).length : Int) ∧ (↑i : Int) + (↑(canon y).length : Int) < o2.length) (.side (inR .i64 ((↑i : Int) + (1 : Int))) (.leaf (.back 0 [(0, .sl (canon x).length 1 (natG .u32 (canon x))), (1, .sl (canon y).length 1 (natG .u32 (canon y))), (5, .osl 0 1 0 o2.length), (6, .int .i64 i), (7, .int .u32 (↑(List.getD (canon x) i 0) : Int)), (8, .int .u64 c), (18, .sl (canon x).length 1 (natG .u32 (canon x))), (19, .int .i64 (↑(canon x).length : Int)), (20, .int .i64 ((↑i : Int) + (1 : Int))), (25, .sl (canon y).length 1 (natG .u32 (canon y))), (26, .int .i64 (↑(canon y).length : Int)), (27, .int .i64 j)] [.arr o2.length 1 (updG (natG .u32 o2) (0 + Int.toNat ((↑i : Int) + (↑(canon y).length : Int))) 0 [.int .u32 ((↑(List.getD o2 (0 + Int.toNat ((↑i : Int) + (↑(canon y).length : Int))) 0) : Int) + c)])]))))))))) (by kernel_rfl) ?_
    have ha := zE (zj x) i
    have hb := zE (zj y) j
    have ho := zE hd2 (i + j)
    have e1 : ((i : Int) + (j : Int)) = ((i + j : Nat) : Int) := by omega
    have e2 : ((i : Int) + ((canon y).length : Int)) = ((i + (canon y).length : Nat) : Int) := by omega
    simp only [Tree.holds, zd, inR, lo, hi, e1, e2, Int.toNat_natCast, Nat.zero_add]
    have e3 : (((canon x).getD i 0 : Nat) : Int) * (((canon y).getD j 0 : Nat) : Int) = (((canon x).getD i 0 * (canon y).getD j 0 : Nat) : Int) := by simp
    have hab : (canon x).getD i 0 * (canon y).getD j 0 ≤ 999999999 * 999999999 := Nat.mul_le_mul (by omega) (by omega)
    generalize hv : (canon x).getD i 0 * (canon y).getD j 0 + o2.getD (i + j) 0 + c = v
    have e4 : (((canon x).getD i 0 : Nat) : Int) * (((canon y).getD j 0 : Nat) : Int) + ((o2.getD (i + j) 0 : Nat) : Int) + (c : Int) = (v : Int) := by rw [e3, ← hv]; omega
    have e5 : (1000000000 : Int) = ((B : Nat) : Int) := rfl
    have hvB : v < 1000000000 * 1000000000 := by omega
    have hdm := Nat.div_add_mod v B
    have hmod : v % B < B := Nat.mod_lt _ (by decide)
    have hdiv : v / B < B := Nat.div_lt_of_lt_mul hvB
    rw [e4, e5, Xx, KO]
    generalize v / B = c' at hdm hdiv ⊢
    generalize v % B = d at hdm hmod ⊢
    rw [e3]
    generalize hab2 : (canon x).getD i 0 * (canon y).getD j 0 = ab at hab hv ⊢
    refine ⟨fun hj => ?_, fun hj => ?_⟩
    ·have hj : j < (canon y).length := by simp at hj; omega
     have hp : i + j < o2.length := by omega
     refine ⟨by omega, fun _ => ⟨by omega, fun _ => ⟨by omega, fun _ => ⟨by omega, fun _ => ⟨by omega, fun _ => ⟨by omega, fun _ => ⟨by omega, fun _ => ⟨by omega, fun _ => ⟨by omega, fun _ => ⟨by omega, fun _ => ⟨by omega, fun _ => ⟨by omega, fun _ => ⟨by omega, fun _ => ⟨by omega, fun _ => ⟨by omega, fun _ => ?_⟩⟩⟩⟩⟩⟩⟩⟩⟩⟩⟩⟩⟩⟩⟩
     rw [if_pos trivial]
     have hs := yS o2 (i + j) d hp
     refine ⟨⟨o2.set (i + j) d, c', j + 1, by simpa using hlen2, by omega, uX hd2 _ hmod, hdiv, fun p hp2 => ?_, ?_⟩, by show _ - (j + 1) < _ - j; omega, by simp [S76b, magS, natS, za], heap_set rfl hp rfl, by kernel_rfl, Nat.zero_le _⟩
     ·have := hz2 p hp2
      simp only [List.getD] at this ⊢
      rw [List.getElem?_set_ne (by omega)]; exact this
     ·rw [Nat.pow_add] at hs
      rw [Nat.pow_succ, zp]
      exact Vz hs he2 hdm (by rw [hab2]; omega)
    ·have hj : j = (canon y).length := by simp at hj; omega
     subst hj
     have h0 := hz2 (i + (canon y).length) (Nat.le_refl _)
     have hp : i + (canon y).length < o2.length := by omega
     have hs := yS o2 (i + (canon y).length) c hp
     refine ⟨by omega, fun _ => ⟨by omega, fun _ => ⟨by omega, fun _ => ⟨by omega, fun _ => ⟨by omega, fun _ => ⟨by omega, fun _ => ?_⟩⟩⟩⟩⟩⟩
     rw [if_neg (by decide), if_pos trivial]
     refine ⟨⟨o2.set (i + (canon y).length) c, i + 1, by simpa using hlen2, by omega, uX hd2 _ hcB, ?_⟩, by show _ - (i + 1) < _ - i; omega, by simp [S76, magS, natS, za], heap_set (by omega) hp rfl, by kernel_rfl, Nat.zero_le _⟩
     rw [h0, Nat.pow_add] at hs
     rw [List.take_length, zk] at he2
     rw [zp, Nat.add_mul, ← he]
     simp only [Nat.mul_zero, Nat.add_zero] at hs
     rw [hs, he2]
  ·have hge : i = (canon x).length := by simp at hge; omega
   subst hge
   rw [List.take_length, zk] at he
   refine ⟨o, ⟨rfl, by omega, by omega, za _ _ _, by simpa using hd⟩, ⟨_, rfl⟩, ?_⟩
   intro X hX
   have hX : X = x * y := by simpa [he] using hX
   subst hX
   refine ⟨[0], rfl, by simp, by simp, fun _ => ⟨?_, ?_⟩, _, _, qf ?_, ?_, rfl, hq⟩
   ·simp [resV, new2, new1, new0, zq]
   ·intro k hk
    simp only [List.mem_singleton] at hk
    subst hk
    intro j o' _ _
    rfl
   ·simp [resV, exp2, exp1, exp0, zq, eqA2, eqA]
   ·have hpad := VA hd
    rw [he, hlen] at hpad
    rw [← hpad]
    simp [expH, expB, hlen, za]
end Go.Proofs.Tryz
end

/- The integers' magnitudes: long division. -/
section
set_option maxRecDepth 100000
open Go Go.Sx Go.Proofs Go.Nov
namespace Go.Proofs.Tryz
attribute [local simp] eqKV eqA eqA0 eqH eqB eqL eqL0
noncomputable def K85 : List Go.Sx.Item := [.code (Tryz.f85.body.getD .skip)]
noncomputable def G2 : Nat → Option Ctr := fun f => if f = 102 then some (WT) else if f = 103 then some (Uh) else if f = 104 then some (uG) else if f = 105 then some (zc0) else if f = 106 then some (zbi) else if f = 107 then some (zay) else none
theorem Vq : ∀ g c, G2 g = some c → ze Tryz.prog g c := okIf Kq (okIf Uv (okIf JB (okIf za9 (okIf UR (okIf UH (zn))))))
theorem jn {k : IntKind} {u : List Nat} {off n X : Nat} (hd : dig ((u.drop off).take n)) (hX : val ((u.drop off).take n) = X) : eqG (canon X).length 1 (zg (natG k u) off) (natG k (canon X)) := by
 have h := zP hd
 rw [hX] at h
 have hl := qg ((u.drop off).take n)
 intro j o hj ho
 simp only [zg, natG, AV.int.injEq, true_and]
 rw [← h] at hj ⊢
 simp only [qN, List.length_take] at hj ⊢
 have hjn : j < n := by simp at hj hl; omega
 have e : (List.take (tlen ((u.drop off).take n)) ((u.drop off).take n)).getD j 0 = ((u.drop off).take n).getD j 0 := by
  simp only [List.getD, List.getElem?_take]
  rw [if_pos (by omega)]
 rw [e, xi _ _ _ _ hjn]
theorem vY (k : IntKind) (n : Nat) : eqG 1 1 (zf 1 [.int k (n : Int)]) (natG k [n]) := by
 intro j o hj ho
 have : j = 0 := by omega
 have : o = 0 := by omega
 subst_vars; rfl
theorem Uc {k : IntKind} {n : Nat} {g : Nat → Nat → AV} {u : List Nat} {off m : Nat} (h : eqG m 1 g (natG k u)) (hm : off + n ≤ m) : eqG n 1 (zg g off) (zg (natG k u) off) := by
 intro j o hj ho
 exact h (off + j) o (by omega) ho
theorem yV {n sz : Nat} {f g h : Nat → Nat → AV} (h1 : eqG n sz f g) (h2 : eqG n sz g h) : eqG n sz f h := fun j o hj ho => (h1 j o hj ho).trans (h2 j o hj ho)
theorem wm {d : Nat} (hd : d < B) : eqG (canon d).length 1 (zg (zf 1 [.int .u32 (d : Int)]) 0) (natG .u32 (canon d)) := by
 have h1 : dig (([d].drop 0).take 1) := by simpa [dig] using hd
 have h2 : val (([d].drop 0).take 1) = d := by simp [val]
 have h3 := jn (k := .u32) h1 h2
 refine yV (Uc (vY .u32 d) ?_) h3
 have := zx (x := d) (n := 1) (by simpa using hd)
 omega
theorem yj {N p : Nat} (hN : (canon p).length ≤ N) : eqG (canon p).length 1 (zg (natG .u32 (padN N p)) 0) (natG .u32 (canon p)) := by
 intro j o hj ho
 simp only [zg, natG, Nat.zero_add, padN, AV.int.injEq, true_and]
 congr 1
 simp only [List.getD]
 rw [List.getElem?_append_left hj]
theorem U5 (N p i : Nat) : (padN N p).getD i 0 = (canon p).getD i 0 := by
 simp only [padN, List.getD]
 by_cases h : i < (canon p).length
 ·rw [List.getElem?_append_left h]
 ·rw [List.getElem?_append_right (by omega), List.getElem?_eq_none (show (canon p).length ≤ i by omega)]
  cases hh : (List.replicate (N - (canon p).length) 0)[i - (canon p).length]? with
  | none => rfl
  | some z => have := List.mem_of_getElem? hh; simp at this; simp [this.2]
theorem J9 {N p : Nat} (h : (canon p).length ≤ N) : (padN N p).length = N := by simp [padN]; omega
theorem zcd (N p : Nat) : dig (padN N p) := q5.2 ⟨zj _, qo _⟩
theorem xr (x y : Nat) : (canon (x * y)).length ≤ (canon x).length + (canon y).length := by
 have h1 := zM (zj x)
 have h2 := zM (zj y)
 rw [zk] at h1 h2
 exact zx (by rw [Nat.pow_add]; exact Nat.mul_lt_mul'' h1 h2)
theorem Q3 {d : Nat} (h0 : 0 < d) (hB : d < B) : (canon d).length = 1 := by
 have h1 := zx (x := d) (n := 1) (by simpa using hB)
 have h2 := jk (x := d) (n := 0) (by simp; omega)
 omega
def uW : Ctr := ctr2 false (fun x y => (canon x).length < 100000 ∧ (canon y).length < 100000 ∧ 0 < y) (fun x y (r : Nat × Nat) => r = (x / y, x % y)) (fun _ _ r => (.tup [magS r.1, magS r.2], []))
def SG (x y s k : Nat) : KV := [(0, magS x), (1, magS y), (4, .nils), (8, .int .u32 (s : Int)), (9, .int .i64 (((canon y).length : Nat) : Int)), (10, .osl 1 1 0 k), (11, .undef), (12, .undef), (13, .undef), (15, .undef), (151, .undef), (152, .undef)]
structure IG (x U : Nat) where
 k : Nat
 o : List Nat
 ko : k ≤ o.length
 le : o.length ≤ (canon x).length + 1
 dg : dig (o.take k)
 eq : val (o.take k) = U
def SD (y s V ul ql j : Nat) : KV := [(0, .undef), (1, .undef), (4, .osl 4 1 0 ql), (8, .int .u32 (s : Int)), (9, .int .i64 (((canon y).length : Nat) : Int)), (10, .osl 1 1 0 ul), (11, .osl 3 1 0 (canon V).length), (12, .int .i64 ((j : Int) - 1)), (13, .undef), (15, .undef), (151, .undef), (152, .undef)]
def HD (y V : Nat) (u q : List Nat) : Heap := [.dead, .arr u.length 1 (natG .u32 u), .dead, .arr ((canon y).length + 1) 1 (natG .u32 (padN ((canon y).length + 1) V)), .arr q.length 1 (natG .u32 q)]
structure ID (x y V U : Nat) where
 u : List Nat
 q : List Nat
 j : Nat
 ul : u.length = (canon x).length + 1
 ql : q.length + (canon y).length = (canon x).length + 1
 jq : j ≤ q.length
 du : dig u
 dq : dig q
 eq : U = V * B ^ j * val (q.drop j) + val u
 lt : val u < V * B ^ j
def SC (y s V ul ql j d L i : Nat) : KV := [(0, .undef), (1, .undef), (4, .osl 4 1 0 ql), (8, .int .u32 (s : Int)), (9, .int .i64 (((canon y).length : Nat) : Int)), (10, .osl 1 1 0 ul), (11, .osl 3 1 0 (canon V).length), (12, .int .i64 (j : Int)), (13, .int .u64 (d : Int)), (15, magS L), (151, .int .i64 (((canon y).length + 1 : Nat) : Int)), (152, .int .i64 (i : Int))]
theorem W8 {x y s V U m i : Nat} {u q : List Nat} {O : Nat → Prop} {w0 : World} {Q : AV × Heap → Prop} {Hs0 : Nat → KV → Heap → Prop} (hm : (canon y).length = m + 2) (hx : (canon x).length < 100000) (hs0 : 0 < s) (hsB : s < B) (hV1 : V < B ^ (m + 2)) (hV2 : B ^ (m + 2) ≤ 2 * V) (hVl : (canon V).length = m + 2) (hV0 : 0 < V)
  (hul : u.length = (canon x).length + 1) (hql : q.length + (canon y).length = (canon x).length + 1) (hjq : i + 1 ≤ q.length) (hdu : dig u) (hdq : dig q) (heq : U = V * B ^ (i + 1) * val (q.drop (i + 1)) + val u) (hlt : val u < V * B ^ (i + 1)) {W : Nat} (hW : val ((u.drop i).take (m + 2 + 1)) = W) (hWB : W / V < B) (kv : KV) (h : Heap) (hle : LeK 0 Tryz.f85.ntmps kv h (SC y s V u.length q.length i (W / V) (W % V) 0) (HD y V u q)) :
  zc Tryz.prog Tryz.f85 O 0 w0 [] (fun d kv h => if d = 0 then ∃ x' : ID x y V U, x'.j < i + 1 ∧ LeK 0 Tryz.f85.ntmps kv h (SD y s V x'.u.length x'.q.length x'.j) (HD y V x'.u x'.q) else Hs0 d kv h) (RetR uW 0 Q)
   (.code (.loop (lps (inside (inside K85 0) 0) 0).1) :: (lps (inside (inside K85 0) 0) 0).2) (mk Tryz.f85.ntmps kv h) := by
 have hB : B = 1000000000 := rfl
 have c2 : 0 + (i : Int).toNat = i := by omega
 have hLV := Nat.mod_lt W hV0
 have hLl : (canon (W % V)).length ≤ m + 2 := zx (by omega)
 refine zc.loop (ι := {k : Nat // k ≤ m + 2 + 1}) (fun k => SC y s V u.length q.length i (W / V) (W % V) k.1) (fun k => HD y V (mixL u (canon (W % V)) i k.1) q) (fun k => m + 2 + 1 - k.1) ⟨0, Nat.zero_le _⟩ 1 ?_ ?_ (by kernel_rfl)
 ·simpa only [XR] using hle
 ·rintro ⟨k, hk⟩
  obtain ⟨L, hL⟩ : ∃ L, W % V = L := ⟨_, rfl⟩
  obtain ⟨d, hd⟩ : ∃ d, W / V = d := ⟨_, rfl⟩
  simp only [hL, hd]
  obtain ⟨u', hu'⟩ : ∃ u', mixL u (canon L) i k = u' := ⟨_, rfl⟩
  have hu'l : u'.length = u.length := by rw [← hu', WG]
  simp only [hu', ← hu'l]
  rw [hL] at hLl hLV
  refine zc.run hmix Vq [0, 1, 4, 8, 9, 10, 11, 12, 13, 15, 151, 152] 400 (T := .ite (decide ((↑k : Int) < (↑(List.length (canon y) + 1) : Int))) (.side (inR .i64 ((↑i : Int) + k)) (.side ((0 : Int) ≤ i + (↑k : Int) ∧ (↑i : Int) + k < (↑(List.length u') : Int)) (.ite (decide ((↑k : Int) < (↑(List.length (canon L)) : Int))) (.side (inR .i64 ((↑i : Int) + k)) (.side ((0 : Int) ≤ k ∧ (↑k : Int) < (↑(List.length (canon L)) : Int)) (.side ((0 : Int) ≤ i + (↑k : Int) ∧ (↑i : Int) + k < (↑(List.length u') : Int)) (.side (inR .i64 ((↑k : Int) + (1 : Int))) (.leaf (.back 1 [(0, .undef), (1, .undef), (4, .osl 4 1 0 q.length), (8, .int .u32 s), (9, .int .i64 (↑(canon y).length : Int)), (10, .osl 1 1 0 (List.length u')), (11, .osl 3 1 0 (List.length (canon V))), (12, .int .i64 i), (13, .int .u64 d), (15, .sl (List.length (canon L)) 1 (natG .u32 (canon L))), (151, .int .i64 (↑(List.length (canon y) + 1) : Int)), (152, .int .i64 ((↑k : Int) + (1 : Int)))] [.dead, .arr (List.length u') 1 (updG (updG (natG .u32 u') (0 + Int.toNat ((↑i : Int) + k)) 0 [.int .u32 0]) (0 + Int.toNat ((↑i : Int) + k)) 0 [.int .u32 (↑(List.getD (canon L) (Int.toNat (↑k : Int)) 0) : Int)]), .dead, .arr (List.length (canon y) + 1) 1 (natG .u32 (padN (List.length (canon y) + 1) V)), .arr q.length 1 (natG .u32 q)])))))) (.side (inR .i64 ((↑k : Int) + (1 : Int))) (.leaf (.back 1 [(0, .undef), (1, .undef), (4, .osl 4 1 0 q.length), (8, .int .u32 s), (9, .int .i64 (↑(canon y).length : Int)), (10, .osl 1 1 0 (List.length u')), (11, .osl 3 1 0 (List.length (canon V))), (12, .int .i64 i), (13, .int .u64 d), (15, .sl (List.length (canon L)) 1 (natG .u32 (canon L))), (151, .int .i64 (↑(List.length (canon y) + 1) : Int)), (152, .int .i64 ((↑k : Int) + (1 : Int)))] [.dead, .arr (List.length u') 1 (updG (natG .u32 u') (0 + Int.toNat ((↑i : Int) + k)) 0 [.int .u32 0]), .dead, .arr (List.length (canon y) + 1) 1 (natG .u32 (padN (List.length (canon y) + 1) V)), .arr q.length 1 (natG .u32 q)])))))) (.side (inR .u32 (↑d : Int)) (.side ((0 : Int) ≤ i ∧ (↑i : Int) < q.length) (.side (inR .i64 ((↑i : Int) - (1 : Int))) (.leaf (.back 0 [(0, .undef), (1, .undef), (4, .osl 4 1 0 q.length), (8, .int .u32 s), (9, .int .i64 (↑(canon y).length : Int)), (10, .osl 1 1 0 (List.length u')), (11, .osl 3 1 0 (List.length (canon V))), (12, .int .i64 ((↑i : Int) - (1 : Int))), (13, .int .u64 d), (15, .sl (List.length (canon L)) 1 (natG .u32 (canon L))), (151, .int .i64 (↑(List.length (canon y) + 1) : Int)), (152, .int .i64 k)] [.dead, .arr (List.length u') 1 (natG .u32 u'), .dead, .arr (List.length (canon y) + 1) 1 (natG .u32 (padN (List.length (canon y) + 1) V)), .arr q.length 1 (updG (natG .u32 q) (0 + Int.toNat (↑i : Int)) 0 [.int .u32 d])])))))) (by kernel_rfl) ?_
  have ek : 0 + ((i : Int) + (k : Int)).toNat = i + k := by omega
  have ek1 : ((k : Int) + 1) = ((k + 1 : Nat) : Int) := by omega
  simp only [Tree.holds, zd, inR, lo, hi, ek, ek1, c2, Int.toNat_natCast]
  refine ⟨fun hlt => ?_, fun hge => ?_⟩
  ·have hlt : k < m + 2 + 1 := by simp at hlt; omega
   have hik : i + k < u'.length := by omega
   refine ⟨by omega, fun _ => ⟨by omega, fun _ => ⟨fun hin => ?_, fun hout => ?_⟩⟩⟩
   ·have hin : k < (canon L).length := by simp at hin; omega
    iterate 4 refine ⟨by omega, fun _ => ?_⟩
    rw [if_pos trivial]
    refine ⟨⟨k + 1, by omega⟩, by show m + 2 + 1 - (k + 1) < m + 2 + 1 - k; omega, by simp [SC, magS, natS, za], ?_, by kernel_rfl, Nat.zero_le _⟩
    have hs2 := WV u (canon L) i k 0
    rw [hu'] at hs2
    simp only [← hs2]
    refine ⟨trivial, ⟨by simp, rfl, ?_⟩, trivial, by simp [za], by simp [za], trivial⟩
    have h1 := wz (k := .u32) (l := u') (v := 0) (i := i + k) (by omega) hik
    have h2 := wz (k := .u32) (l := u'.set (i + k) 0) (v := ((canon L).getD k 0 : Nat)) (i := i + k) (by omega) (by simpa using hik)
    simp only [List.length_set, Int.toNat_natCast] at h2
    refine yV ?_ h2
    intro p o hp ho
    have := h1 p o hp ho
    simp only [updG] at this ⊢
    split
    ·rfl
    ·exact this
   ·have hout : (canon L).length ≤ k := by simp at hout; omega
    refine ⟨by omega, fun _ => ?_⟩
    rw [if_pos trivial]
    refine ⟨⟨k + 1, by omega⟩, by show m + 2 + 1 - (k + 1) < m + 2 + 1 - k; omega, by simp [SC, magS, natS, za], ?_, by kernel_rfl, Nat.zero_le _⟩
    have hs2 := WV u (canon L) i k 0
    rw [hu'] at hs2
    have hz : (canon L).getD k 0 = 0 := by simp [List.getD, List.getElem?_eq_none hout]
    rw [hz, List.set_set] at hs2
    simp only [← hs2]
    refine ⟨trivial, ⟨by simp, rfl, ?_⟩, trivial, by simp [za], by simp [za], trivial⟩
    exact wz (k := .u32) (l := u') (v := 0) (i := i + k) (by omega) hik
  ·have hk : k = m + 2 + 1 := by simp at hge; omega
   subst hk
   have hdB : d < B := hd ▸ hWB
   iterate 3 refine ⟨by omega, fun _ => ?_⟩
   rw [if_neg (by decide), if_pos trivial]
   have hval := UZ (u := u) (L := L) (j := i) (k := m + 2 + 1) (by omega) (by omega)
   rw [hu'] at hval
   have hst := step_eq (u := u) (u' := u') (q := q) (j := i) (k := m + 2 + 1) (V := V) (U0 := U) hdu (by omega) (by simpa using hV1) (by omega) hV0 hlt (by omega) heq (by rw [hW, hL]; exact hval)
   rw [hW, hd] at hst
   refine ⟨⟨u', q.set i d, i, by omega, by simpa using hql, by simp; omega, ?_, uX hdq _ hdB, hst.2, hst.1⟩, Nat.lt_succ_self _, by simp [SD, za], ?_, by kernel_rfl, Nat.zero_le _⟩
   ·rw [← hu']; exact zc5 hdu (zj _) _ _
   ·refine ⟨trivial, ⟨rfl, rfl, za _ _ _⟩, trivial, ⟨rfl, rfl, za _ _ _⟩, ⟨by simp, rfl, ?_⟩, trivial⟩
    have := wz (k := .u32) (l := q) (v := (d : Int)) (i := i) (by omega) (by omega)
    simpa using this
set_option maxHeartbeats 2000000 in
theorem JT {x y s V U m i : Nat} {u q : List Nat} {O : Nat → Prop} {w0 : World} {Q : AV × Heap → Prop} {Hs0 : Nat → KV → Heap → Prop} (hm : (canon y).length = m + 2) (hx : (canon x).length < 100000) (hs0 : 0 < s) (hsB : s < B) (hV1 : V < B ^ (m + 2)) (hV2 : B ^ (m + 2) ≤ 2 * V) (hVl : (canon V).length = m + 2) (hV0 : 0 < V)
  (hul : u.length = (canon x).length + 1) (hql : q.length + (canon y).length = (canon x).length + 1) (hjq : i + 1 ≤ q.length) (hdu : dig u) (hdq : dig q) (heq : U = V * B ^ (i + 1) * val (q.drop (i + 1)) + val u) (hlt : val u < V * B ^ (i + 1)) :
  zc Tryz.prog Tryz.f85 O 0 w0 [] (fun d kv h => if d = 0 then ∃ x' : ID x y V U, x'.j < i + 1 ∧ LeK 0 Tryz.f85.ntmps kv h (SD y s V x'.u.length x'.q.length x'.j) (HD y V x'.u x'.q) else Hs0 d kv h) (RetR uW 0 Q) (inside (inside K85 0) 0) (mk Tryz.f85.ntmps (SD y s V u.length q.length (i + 1)) (HD y V u q)) := by
 have hB : B = 1000000000 := rfl
 refine zc.run hmix Vq [0, 1, 4, 8, 9, 10, 11, 12, 13, 15, 151, 152] 400 (T := .ite (decide ((0 : Int) ≤ (↑(i + 1) : Int) - (1 : Int))) (.side (inR .i64 ((↑(i + 1) : Int) - (1 : Int) + (↑(canon y).length : Int))) (.side ((0 : Int) ≤ (↑(i + 1) : Int) - (1 : Int) + (↑(canon y).length : Int) ∧ (↑(i + 1) : Int) - (1 : Int) + (↑(canon y).length : Int) < u.length) (.side (inR .u64 (↑(List.getD u (0 + Int.toNat ((↑(i + 1) : Int) - (1 : Int) + (↑(canon y).length : Int))) 0) : Int)) (.side (inR .i64 ((↑(i + 1) : Int) - (1 : Int) + (↑(canon y).length : Int))) (.side (inR .i64 ((↑(i + 1) : Int) - (1 : Int) + (↑(canon y).length : Int) - (1 : Int))) (.side ((0 : Int) ≤ (↑(i + 1) : Int) - (1 : Int) + (↑(canon y).length : Int) - (1 : Int) ∧ (↑(i + 1) : Int) - (1 : Int) + (↑(canon y).length : Int) - (1 : Int) < u.length) (.side (inR .u64 (↑(List.getD u (0 + Int.toNat ((↑(i + 1) : Int) - (1 : Int) + (↑(canon y).length : Int) - (1 : Int))) 0) : Int)) (.side (inR .i64 ((↑(i + 1) : Int) - (1 : Int) + (↑(canon y).length : Int))) (.side (inR .i64 ((↑(i + 1) : Int) - (1 : Int) + (↑(canon y).length : Int) - (2 : Int))) (.side ((0 : Int) ≤ (↑(i + 1) : Int) - (1 : Int) + (↑(canon y).length : Int) - (2 : Int) ∧ (↑(i + 1) : Int) - (1 : Int) + (↑(canon y).length : Int) - (2 : Int) < u.length) (.side (inR .u64 (↑(List.getD u (0 + Int.toNat ((↑(i + 1) : Int) - (1 : Int) + (↑(canon y).length : Int) - (2 : Int))) 0) : Int)) (.side (inR .i64 ((↑(canon y).length : Int) - (1 : Int))) (.side ((0 : Int) ≤ (↑(canon y).length : Int) - (1 : Int) ∧ (↑(canon y).length : Int) - (1 : Int) < (↑(List.length (canon V)) : Int)) (.side (inR .u64 (↑(List.getD (padN (List.length (canon y) + 1) V) (0 + Int.toNat ((↑(canon y).length : Int) - (1 : Int))) 0) : Int)) (.side (inR .i64 ((↑(canon y).length : Int) - (2 : Int))) (.side ((0 : Int) ≤ (↑(canon y).length : Int) - (2 : Int) ∧ (↑(canon y).length : Int) - (2 : Int) < (↑(List.length (canon V)) : Int)) (.side (inR .u64 (↑(List.getD (padN (List.length (canon y) + 1) V) (0 + Int.toNat ((↑(canon y).length : Int) - (2 : Int))) 0) : Int)) (.ex (fun (x : D5) => eqL [AV.int .u64 (↑(List.getD u (0 + Int.toNat ((↑(i + 1) : Int) - (1 : Int) + (↑(canon y).length : Int))) 0) : Int), AV.int .u64 (↑(List.getD u (0 + Int.toNat ((↑(i + 1) : Int) - (1 : Int) + (↑(canon y).length : Int) - (1 : Int))) 0) : Int), AV.int .u64 (↑(List.getD u (0 + Int.toNat ((↑(i + 1) : Int) - (1 : Int) + (↑(canon y).length : Int) - (2 : Int))) 0) : Int), AV.int .u64 (↑(List.getD (padN (List.length (canon y) + 1) V) (0 + Int.toNat ((↑(canon y).length : Int) - (1 : Int))) 0) : Int), AV.int .u64 (↑(List.getD (padN (List.length (canon y) + 1) V) (0 + Int.toNat ((↑(canon y).length : Int) - (2 : Int))) 0) : Int)] [AV.int .u64 (↑(D5.t x) : Int), AV.int .u64 (↑(D5.u x) : Int), AV.int .u64 (↑(D5.v x) : Int), AV.int .u64 (↑(D5.y x) : Int), AV.int .u64 (↑(D5.z x) : Int)] ∧ D5.t x ≤ D5.y x ∧ D5.u x < 1000000000 ∧ D5.v x < 1000000000 ∧ D5.y x < 1000000000 ∧ D5.z x < 1000000000 ∧ 1000000000 ≤ 2 * D5.y x) fun n => .all (fun (n_1 : Nat) => n_1 = qJ (D5.v n) (D5.y n) (D5.z n) 2 ((D5.t n * 1000000000 + D5.u n) / D5.y n) ((D5.t n * 1000000000 + D5.u n) % D5.y n)) fun n => .side (inR .u32 (↑n : Int)) (.ex (fun (u : List Nat) => u.length = 1 ∧ 1 ≤ 1 ∧ 1 < 4611686018427387904 ∧ eqG 1 1 (zf 1 [AV.int .u32 n]) (natG .u32 u) ∧ dig (List.take 1 (List.drop 0 u))) fun n_1 => .all (fun (x : Nat) => x = val (List.take 1 (List.drop 0 n_1))) fun n_2 => .ex (fun (x : Nat × Nat) => eqL [AV.sl (List.length (canon V)) 1 (zg (natG .u32 (padN (List.length (canon y) + 1) V)) 0), AV.sl (canon n_2).length 1 (zg (zf 1 [AV.int .u32 n]) 0)] [AV.sl (canon x.1).length 1 (natG .u32 (canon x.1)), AV.sl (canon x.2).length 1 (natG .u32 (canon x.2))] ∧ fits x.1 ∧ fits x.2) fun n_3 => .all (fun (p : Nat) => p = n_3.1 * n_3.2) fun n_4 => .side (inR .i64 ((↑(i + 1) : Int) - (1 : Int) + (↑(canon y).length : Int))) (.side (inR .i64 ((↑(i + 1) : Int) - (1 : Int) + (↑(canon y).length : Int) + (1 : Int))) (.side ((0 : Int) ≤ (↑(i + 1) : Int) - (1 : Int) ∧ (↑(i + 1) : Int) - (1 : Int) ≤ (↑(i + 1) : Int) - (1 : Int) + (↑(canon y).length : Int) + (1 : Int) ∧ (↑(i + 1) : Int) - (1 : Int) + (↑(canon y).length : Int) + (1 : Int) ≤ u.length) (.ex (fun (u_1 : List Nat) => u_1.length = u.length ∧ 0 + Int.toNat ((↑(i + 1) : Int) - (1 : Int)) + (Int.toNat ((↑(i + 1) : Int) - (1 : Int) + (↑(canon y).length : Int) + (1 : Int)) - Int.toNat ((↑(i + 1) : Int) - (1 : Int))) ≤ u.length ∧ Int.toNat ((↑(i + 1) : Int) - (1 : Int) + (↑(canon y).length : Int) + (1 : Int)) - Int.toNat ((↑(i + 1) : Int) - (1 : Int)) < 4611686018427387904 ∧ eqG u.length 1 (natG .u32 u) (natG .u32 u_1) ∧ dig (List.take (Int.toNat ((↑(i + 1) : Int) - (1 : Int) + (↑(canon y).length : Int) + (1 : Int)) - Int.toNat ((↑(i + 1) : Int) - (1 : Int))) (List.drop (0 + Int.toNat ((↑(i + 1) : Int) - (1 : Int))) u_1))) fun n_5 => .all (fun (x : Nat) => x = val (List.take (Int.toNat ((↑(i + 1) : Int) - (1 : Int) + (↑(canon y).length : Int) + (1 : Int)) - Int.toNat ((↑(i + 1) : Int) - (1 : Int))) (List.drop (0 + Int.toNat ((↑(i + 1) : Int) - (1 : Int))) n_5))) fun n_6 => .ex (fun (x : Nat × Nat) => eqL [AV.sl (canon n_6).length 1 (zg (natG .u32 u) (0 + Int.toNat ((↑(i + 1) : Int) - (1 : Int)))), AV.sl (canon n_4).length 1 (zg (natG .u32 (padN (List.length (canon n_3.1) + List.length (canon n_3.2)) n_4)) 0)] [AV.sl (canon x.1).length 1 (natG .u32 (canon x.1)), AV.sl (canon x.2).length 1 (natG .u32 (canon x.2))] ∧ fits x.1 ∧ fits x.2) fun n_7 => .all (fun (r : Int) => r = cmp3 n_7.1 n_7.2) fun n_8 => .ite (decide (n_8 < 0)) (.side (inR .u64 ((↑n : Int) - (1 : Int))) (.side (inR .u32 ((↑n : Int) - (1 : Int))) (.ex (fun (u : List Nat) => u.length = 1 ∧ 1 ≤ 1 ∧ 1 < 4611686018427387904 ∧ eqG 1 1 (zf 1 [AV.int .u32 ((↑n : Int) - (1 : Int))]) (natG .u32 u) ∧ dig (List.take 1 (List.drop 0 u))) fun n_9 => .all (fun (x : Nat) => x = val (List.take 1 (List.drop 0 n_9))) fun n_10 => .ex (fun (x : Nat × Nat) => eqL [AV.sl (List.length (canon V)) 1 (zg (natG .u32 (padN (List.length (canon y) + 1) V)) 0), AV.sl (canon n_10).length 1 (zg (zf 1 [AV.int .u32 ((↑n : Int) - (1 : Int))]) 0)] [AV.sl (canon x.1).length 1 (natG .u32 (canon x.1)), AV.sl (canon x.2).length 1 (natG .u32 (canon x.2))] ∧ fits x.1 ∧ fits x.2) fun n_11 => .all (fun (p : Nat) => p = n_11.1 * n_11.2) fun n_12 => .side (inR .i64 ((↑(i + 1) : Int) - (1 : Int) + (↑(canon y).length : Int))) (.side (inR .i64 ((↑(i + 1) : Int) - (1 : Int) + (↑(canon y).length : Int) + (1 : Int))) (.side ((0 : Int) ≤ (↑(i + 1) : Int) - (1 : Int) ∧ (↑(i + 1) : Int) - (1 : Int) ≤ (↑(i + 1) : Int) - (1 : Int) + (↑(canon y).length : Int) + (1 : Int) ∧ (↑(i + 1) : Int) - (1 : Int) + (↑(canon y).length : Int) + (1 : Int) ≤ u.length) (.ex (fun (u_1 : List Nat) => u_1.length = u.length ∧ 0 + Int.toNat ((↑(i + 1) : Int) - (1 : Int)) + (Int.toNat ((↑(i + 1) : Int) - (1 : Int) + (↑(canon y).length : Int) + (1 : Int)) - Int.toNat ((↑(i + 1) : Int) - (1 : Int))) ≤ u.length ∧ Int.toNat ((↑(i + 1) : Int) - (1 : Int) + (↑(canon y).length : Int) + (1 : Int)) - Int.toNat ((↑(i + 1) : Int) - (1 : Int)) < 4611686018427387904 ∧ eqG u.length 1 (natG .u32 u) (natG .u32 u_1) ∧ dig (List.take (Int.toNat ((↑(i + 1) : Int) - (1 : Int) + (↑(canon y).length : Int) + (1 : Int)) - Int.toNat ((↑(i + 1) : Int) - (1 : Int))) (List.drop (0 + Int.toNat ((↑(i + 1) : Int) - (1 : Int))) u_1))) fun n_13 => .all (fun (x : Nat) => x = val (List.take (Int.toNat ((↑(i + 1) : Int) - (1 : Int) + (↑(canon y).length : Int) + (1 : Int)) - Int.toNat ((↑(i + 1) : Int) - (1 : Int))) (List.drop (0 + Int.toNat ((↑(i + 1) : Int) - (1 : Int))) n_13))) fun n_14 => .ex (fun (x : Nat × Nat) => eqL [AV.sl (canon n_14).length 1 (zg (natG .u32 u) (0 + Int.toNat ((↑(i + 1) : Int) - (1 : Int)))), AV.sl (canon n_12).length 1 (zg (natG .u32 (padN (List.length (canon n_11.1) + List.length (canon n_11.2)) n_12)) 0)] [AV.sl (canon x.1).length 1 (natG .u32 (canon x.1)), AV.sl (canon x.2).length 1 (natG .u32 (canon x.2))] ∧ fits x.1 ∧ x.2 ≤ x.1) fun n_15 => .all (fun (d : Nat) => d = n_15.1 - n_15.2) fun n_16 => .side (inR .i64 ((↑(canon y).length : Int) + (1 : Int))) (.leaf (.loop (Prod.fst (lps (inside (inside K85 0) 0) 0)) (Prod.snd (lps (inside (inside K85 0) 0) 0)) [(0, .undef), (1, .undef), (4, .osl 4 1 0 q.length), (8, .int .u32 s), (9, .int .i64 (↑(canon y).length : Int)), (10, .osl 1 1 0 u.length), (11, .osl 3 1 0 (List.length (canon V))), (12, .int .i64 ((↑(i + 1) : Int) - (1 : Int))), (13, .int .u64 ((↑n : Int) - (1 : Int))), (15, .sl (canon n_16).length 1 (natG .u32 (canon n_16))), (151, .int .i64 ((↑(canon y).length : Int) + (1 : Int))), (152, .int .i64 0)] [.dead, .arr u.length 1 (natG .u32 u), .dead, .arr (List.length (canon y) + 1) 1 (natG .u32 (padN (List.length (canon y) + 1) V)), .arr q.length 1 (natG .u32 q), .arr 1 1 (zf 1 [.int .u32 n]), .arr (List.length (canon n_3.1) + List.length (canon n_3.2)) 1 (natG .u32 (padN (List.length (canon n_3.1) + List.length (canon n_3.2)) n_4)), .arr 1 1 (zf 1 [.int .u32 ((↑n : Int) - (1 : Int))]), .arr (List.length (canon n_11.1) + List.length (canon n_11.2)) 1 (natG .u32 (padN (List.length (canon n_11.1) + List.length (canon n_11.2)) n_12))])))))))) (.side (inR .i64 ((↑(i + 1) : Int) - (1 : Int) + (↑(canon y).length : Int))) (.side (inR .i64 ((↑(i + 1) : Int) - (1 : Int) + (↑(canon y).length : Int) + (1 : Int))) (.side ((0 : Int) ≤ (↑(i + 1) : Int) - (1 : Int) ∧ (↑(i + 1) : Int) - (1 : Int) ≤ (↑(i + 1) : Int) - (1 : Int) + (↑(canon y).length : Int) + (1 : Int) ∧ (↑(i + 1) : Int) - (1 : Int) + (↑(canon y).length : Int) + (1 : Int) ≤ u.length) (.ex (fun (u_1 : List Nat) => u_1.length = u.length ∧ 0 + Int.toNat ((↑(i + 1) : Int) - (1 : Int)) + (Int.toNat ((↑(i + 1) : Int) - (1 : Int) + (↑(canon y).length : Int) + (1 : Int)) - Int.toNat ((↑(i + 1) : Int) - (1 : Int))) ≤ u.length ∧ Int.toNat ((↑(i + 1) : Int) - (1 : Int) + (↑(canon y).length : Int) + (1 : Int)) - Int.toNat ((↑(i + 1) : Int) - (1 : Int)) < 4611686018427387904 ∧ eqG u.length 1 (natG .u32 u) (natG .u32 u_1) ∧ dig (List.take (Int.toNat ((↑(i + 1) : Int) - (1 : Int) + (↑(canon y).length : Int) + (1 : Int)) - Int.toNat ((↑(i + 1) : Int) - (1 : Int))) (List.drop (0 + Int.toNat ((↑(i + 1) : Int) - (1 : Int))) u_1))) fun n_9 => .all (fun (x : Nat) => x = val (List.take (Int.toNat ((↑(i + 1) : Int) - (1 : Int) + (↑(canon y).length : Int) + (1 : Int)) - Int.toNat ((↑(i + 1) : Int) - (1 : Int))) (List.drop (0 + Int.toNat ((↑(i + 1) : Int) - (1 : Int))) n_9))) fun n_10 => .ex (fun (x : Nat × Nat) => eqL [AV.sl (canon n_10).length 1 (zg (natG .u32 u) (0 + Int.toNat ((↑(i + 1) : Int) - (1 : Int)))), AV.sl (canon n_4).length 1 (zg (natG .u32 (padN (List.length (canon n_3.1) + List.length (canon n_3.2)) n_4)) 0)] [AV.sl (canon x.1).length 1 (natG .u32 (canon x.1)), AV.sl (canon x.2).length 1 (natG .u32 (canon x.2))] ∧ fits x.1 ∧ x.2 ≤ x.1) fun n_11 => .all (fun (d : Nat) => d = n_11.1 - n_11.2) fun n_12 => .side (inR .i64 ((↑(canon y).length : Int) + (1 : Int))) (.leaf (.loop (Prod.fst (lps (inside (inside K85 0) 0) 0)) (Prod.snd (lps (inside (inside K85 0) 0) 0)) [(0, .undef), (1, .undef), (4, .osl 4 1 0 q.length), (8, .int .u32 s), (9, .int .i64 (↑(canon y).length : Int)), (10, .osl 1 1 0 u.length), (11, .osl 3 1 0 (List.length (canon V))), (12, .int .i64 ((↑(i + 1) : Int) - (1 : Int))), (13, .int .u64 n), (15, .sl (canon n_12).length 1 (natG .u32 (canon n_12))), (151, .int .i64 ((↑(canon y).length : Int) + (1 : Int))), (152, .int .i64 0)] [.dead, .arr u.length 1 (natG .u32 u), .dead, .arr (List.length (canon y) + 1) 1 (natG .u32 (padN (List.length (canon y) + 1) V)), .arr q.length 1 (natG .u32 q), .arr 1 1 (zf 1 [.int .u32 n]), .arr (List.length (canon n_3.1) + List.length (canon n_3.2)) 1 (natG .u32 (padN (List.length (canon n_3.1) + List.length (canon n_3.2)) n_4))])))))))))))))))))))))))))))) (.ex (fun (u_1 : List Nat) => u_1.length = u.length ∧ 0 + u.length ≤ u.length ∧ u.length < 4611686018427387904 ∧ eqG u.length 1 (natG .u32 u) (natG .u32 u_1) ∧ dig (List.take u.length (List.drop 0 u_1))) fun n => .all (fun (x : Nat) => x = val (List.take u.length (List.drop 0 n))) fun n => .ex (fun (x : Nat × Nat) => eqL [AV.sl (canon n).length 1 (zg (natG .u32 u) 0), AV.int .u32 s] [AV.sl (canon x.1).length 1 (natG .u32 (canon x.1)), AV.int .u32 x.2] ∧ fits x.1 ∧ 0 < x.2 ∧ x.2 < 1000000000) fun n => .all (fun (r : Nat × Nat) => r = (n.1 / n.2, n.1 % n.2)) fun n => .ex (fun (u : List Nat) => u.length = q.length ∧ 0 + q.length ≤ q.length ∧ q.length < 4611686018427387904 ∧ eqG q.length 1 (natG .u32 q) (natG .u32 u) ∧ dig (List.take q.length (List.drop 0 u))) fun n_1 => .all (fun (x : Nat) => x = val (List.take q.length (List.drop 0 n_1))) fun n_2 => .leaf (.ret [.osl 4 1 0 (canon n_2).length, .sl (canon n.1).length 1 (natG .u32 (canon n.1))] [.dead, .arr u.length 1 (natG .u32 u), .dead, .arr (List.length (canon y) + 1) 1 (natG .u32 (padN (List.length (canon y) + 1) V)), .arr q.length 1 (natG .u32 q)]))) (by kernel_rfl) ?_
 simp only [Tree.holds, zd, inR, lo, hi]
 refine ⟨fun hj => ?_, fun hj => by simp at hj⟩
 have ej : (((i + 1 : Nat) : Int) - 1) = (i : Int) := by omega
 have a1 : 0 + ((i : Int) + ((canon y).length : Int)).toNat = i + (m + 2) := by omega
 have a2 : 0 + ((i : Int) + ((canon y).length : Int) - 1).toNat = i + (m + 1) := by omega
 have a3 : 0 + ((i : Int) + ((canon y).length : Int) - 2).toNat = i + m := by omega
 have b1 : 0 + (((canon y).length : Int) - 1).toNat = m + 1 := by omega
 have b2 : 0 + (((canon y).length : Int) - 2).toNat = m := by omega
 have c1 : ((i : Int) + ((canon y).length : Int) + 1).toNat - (i : Int).toNat = m + 2 + 1 := by omega
 have c2 : 0 + (i : Int).toNat = i := by omega
 simp only [ej, a1, a2, a3, b1, b2, c1, c2, U5]
 have hu1 := zE hdu (i + (m + 2))
 have hu2 := zE hdu (i + (m + 1))
 have hu3 := zE hdu (i + m)
 have hv1 := zE (zj V) (m + 1)
 have hv2 := zE (zj V) m
 iterate 17 refine ⟨by omega, fun _ => ?_⟩
 obtain ⟨W, hW⟩ : ∃ W, val ((u.drop i).take (m + 2 + 1)) = W := ⟨_, rfl⟩
 have hdw : dig ((u.drop i).take (m + 2 + 1)) := q7 (Qf hdu _) _
 have hWl : (canon W).length ≤ m + 2 + 1 := by
  refine zx ?_
  have := zM hdw
  rw [hW, List.length_take] at this
  exact Nat.lt_of_lt_of_le this (Nat.pow_le_pow_right (by decide) (Nat.min_le_left _ _))
 obtain ⟨g1, g2, g3, g4, g5, g6⟩ := UT hdu (by omega) hVl hV2 hlt hW rfl
 refine ⟨⟨u.getD (i + (m + 2)) 0, u.getD (i + (m + 1)) 0, u.getD (i + m) 0, (canon V).getD (m + 1) 0, (canon V).getD m 0⟩, ⟨by simp, g3, hu2, hu3, hv1, hv2, g2⟩, ⟨_, rfl⟩, ?_⟩
 intro d hd
 simp only at hd
 rw [← hd] at g4 g5 g6
 clear hd
 have hWVB : W / V < B := by omega
 have fin := W8 (x := x) (y := y) (s := s) (V := V) (U := U) (O := O) (w0 := w0) (Q := Q) (Hs0 := Hs0) hm hx hs0 hsB hV1 hV2 hVl hV0 hul hql hjq hdu hdq heq hlt hW hWVB
 have hdm := Nat.div_add_mod W V
 have hmlt := Nat.mod_lt W hV0
 have hul2 : i + (m + 2 + 1) ≤ u.length := by omega
 have hul3 : u.length < 100002 := by omega
 clear heq hlt hul hql hjq hdq hx hs0 hsB hV2 g1 g2 g3 hu1 hu2 hu3 hv1 hv2 hj a1 a2 a3 b1 b2
 generalize W / V = qd at *
 generalize W % V = rm at *
 refine ⟨by omega, fun _ => ?_⟩
 refine ⟨[d], ⟨rfl, by omega, by omega, vY _ _, by simpa [dig] using g6⟩, ⟨_, rfl⟩, ?_⟩
 intro D hD
 have hD : D = d := by simpa [val] using hD
 subst hD
 have hdl := zx (x := D) (n := 1) (by simpa using g6)
 refine ⟨(V, D), ⟨?_, by simp only [fits]; omega, by simp only [fits]; omega⟩, ⟨_, rfl⟩, ?_⟩
 ·simp only [eqL, eqA, eqA0, true_and, and_true]
  exact ⟨yj (by omega), wm g6⟩
 intro p hp
 simp only at hp ⊢
 have hpl := xr V D
 rw [← hp] at hpl
 iterate 3 refine ⟨by omega, fun _ => ?_⟩
 refine ⟨u, ⟨rfl, hul2, by omega, za _ _ _, hdw⟩, ⟨_, rfl⟩, ?_⟩
 intro W' hW'
 have hW' : W' = W := hW'.trans hW
 subst hW'
 refine ⟨(W', p), ⟨?_, by simp only [fits]; omega, by simp only [fits]; omega⟩, ⟨_, rfl⟩, ?_⟩
 ·simp only [eqL, eqA, eqA0, true_and, and_true]
  exact ⟨jn hdw hW, yj hpl⟩
 rintro c rfl
 refine ⟨fun hlt2 => ?_, fun hge2 => ?_⟩
 ·have hlt2 : W' < p := by
   simp only [cmp3, decide_eq_true_eq] at hlt2
   rcases Nat.lt_or_ge W' p with h | h
   ·exact h
   ·rw [if_neg (by omega)] at hlt2; split at hlt2 <;> omega
  have hDQ : D = qd + 1 := by
   rcases Nat.lt_or_ge qd D with h | h
   ·omega
   ·have : V * D ≤ V * qd := Nat.mul_le_mul_left _ h
    omega
  have e3 : ((D : Int) - 1) = ((qd : Nat) : Int) := by omega
  simp only [e3]
  have hQl := zx (x := qd) (n := 1) (by simpa using hWVB)
  iterate 2 refine ⟨by omega, fun _ => ?_⟩
  refine ⟨[qd], ⟨rfl, by omega, by omega, vY _ _, by simpa [dig] using hWVB⟩, ⟨_, rfl⟩, ?_⟩
  intro E hE
  have hE : E = qd := by simpa [val] using hE
  subst hE
  refine ⟨(V, E), ⟨?_, by simp only [fits]; omega, by simp only [fits]; omega⟩, ⟨_, rfl⟩, ?_⟩
  ·simp only [eqL, eqA, eqA0, true_and, and_true]
   exact ⟨yj (by omega), wm hWVB⟩
  intro p2 hp2
  simp only at hp2 ⊢
  have hp2l := xr V E
  rw [← hp2] at hp2l
  iterate 3 refine ⟨by omega, fun _ => ?_⟩
  refine ⟨u, ⟨rfl, hul2, by omega, za _ _ _, hdw⟩, ⟨_, rfl⟩, ?_⟩
  intro W2 hW2
  have hW2 : W2 = W' := hW2.trans hW
  subst hW2
  refine ⟨(W2, p2), ⟨?_, by simp only [fits]; omega, by simp only; omega⟩, ⟨_, rfl⟩, ?_⟩
  ·simp only [eqL, eqA, eqA0, true_and, and_true]
   exact ⟨jn hdw hW, yj hp2l⟩
  intro L hL
  simp only at hL ⊢
  have hL : L = rm := by omega
  subst hL
  refine ⟨by omega, fun _ => ?_⟩
  refine fin _ _ ⟨by simp [SC, magS, natS, za, hVl], ?_, by kernel_rfl, Nat.zero_le _⟩
  simp [HD, za]
 ·have hge2 : p ≤ W' := by
   simp only [cmp3, decide_eq_false_iff_not] at hge2
   rcases Nat.lt_or_ge W' p with h | h
   ·rw [if_pos h] at hge2; omega
   ·exact h
  have hDQ : D = qd := by
   rcases Nat.lt_or_ge qd D with h | h
   ·have : V * (qd + 1) ≤ V * D := Nat.mul_le_mul_left _ h
    rw [Nat.mul_add] at this
    omega
   ·omega
  subst hDQ
  iterate 3 refine ⟨by omega, fun _ => ?_⟩
  refine ⟨u, ⟨rfl, hul2, by omega, za _ _ _, hdw⟩, ⟨_, rfl⟩, ?_⟩
  intro W2 hW2
  have hW2 : W2 = W' := hW2.trans hW
  subst hW2
  refine ⟨(W2, p), ⟨?_, by simp only [fits]; omega, hge2⟩, ⟨_, rfl⟩, ?_⟩
  ·simp only [eqL, eqA, eqA0, true_and, and_true]
   exact ⟨jn hdw hW, yj hpl⟩
  intro L hL
  simp only at hL ⊢
  have hL : L = rm := by omega
  subst hL
  refine ⟨by omega, fun _ => ?_⟩
  refine fin _ _ ⟨by simp [SC, magS, natS, za, hVl], ?_, by kernel_rfl, Nat.zero_le _⟩
  simp [HD, za]
set_option maxHeartbeats 4000000 in
theorem YT : ze Tryz.prog 85 uW := by
 refine Zf (fn := Tryz.f85) (c := Tryz.f85.body.getD .skip) rfl rfl rfl fun x y hp O w0 Q hq => ?_
 replace hq := hq _ rfl
 obtain ⟨hx, hy, hy0⟩ := hp
 simp only at hq
 have hB : B = 1000000000 := rfl
 refine zc.run hmix Vq [0, 1, 4, 8, 9, 10, 11, 12, 13, 15, 151, 152] 400 (T := .ex (fun (x_1 : Nat × Nat) => eqL [AV.sl (canon x).length 1 (natG .u32 (canon x)), AV.sl (canon y).length 1 (natG .u32 (canon y))] [AV.sl (canon x_1.1).length 1 (natG .u32 (canon x_1.1)), AV.sl (canon x_1.2).length 1 (natG .u32 (canon x_1.2))] ∧ fits x_1.1 ∧ fits x_1.2) fun n => .all (fun (r : Int) => r = cmp3 n.1 n.2) fun n => .ite (decide (n < 0)) (.leaf (.ret [.nils, .sl (canon x).length 1 (natG .u32 (canon x))] [])) (.ite (decide ((↑(canon y).length : Int) = 1)) (.side ((0 : Int) ≤ 0 ∧ (0 : Int) < (↑(canon y).length : Int)) (.ex (fun (x_1 : Nat × Nat) => eqL [AV.sl (canon x).length 1 (natG .u32 (canon x)), AV.int .u32 (↑(List.getD (canon y) 0 0) : Int)] [AV.sl (canon x_1.1).length 1 (natG .u32 (canon x_1.1)), AV.int .u32 x_1.2] ∧ fits x_1.1 ∧ 0 < x_1.2 ∧ x_1.2 < 1000000000) fun n => .all (fun (r : Nat × Nat) => r = (n.1 / n.2, n.1 % n.2)) fun n => .ex (fun (u : List Nat) => u.length = 1 ∧ 1 ≤ 1 ∧ 1 < 4611686018427387904 ∧ eqG 1 1 (zf 1 [AV.int .u32 n.2]) (natG .u32 u) ∧ dig (List.take 1 (List.drop 0 u))) fun n_1 => .all (fun (x : Nat) => x = val (List.take 1 (List.drop 0 n_1))) fun n_2 => .leaf (.ret [.sl (canon n.1).length 1 (natG .u32 (canon n.1)), .osl 0 1 0 (canon n_2).length] [.arr 1 1 (zf 1 [.int .u32 n.2])]))) (.side (inR .i64 ((↑(canon y).length : Int) - (1 : Int))) (.side ((0 : Int) ≤ (↑(canon y).length : Int) - (1 : Int) ∧ (↑(canon y).length : Int) - (1 : Int) < (↑(canon y).length : Int)) (.side (inR .u64 (↑(List.getD (canon y) (Int.toNat ((↑(canon y).length : Int) - (1 : Int))) 0) : Int)) (.side (inR .u64 ((↑(List.getD (canon y) (Int.toNat ((↑(canon y).length : Int) - (1 : Int))) 0) : Int) + (1 : Int))) (.side ((↑(List.getD (canon y) (Int.toNat ((↑(canon y).length : Int) - (1 : Int))) 0) : Int) + (1 : Int) ≠ 0 ∧ inR .u64 (Int.tdiv (1000000000 : Int) ((↑(List.getD (canon y) (Int.toNat ((↑(canon y).length : Int) - (1 : Int))) 0) : Int) + (1 : Int)))) (.side (inR .u32 (Int.tdiv (1000000000 : Int) ((↑(List.getD (canon y) (Int.toNat ((↑(canon y).length : Int) - (1 : Int))) 0) : Int) + (1 : Int)))) (.ex (fun (x_1 : Nat × Nat) => eqL [AV.sl (canon x).length 1 (natG .u32 (canon x)), AV.sl 1 1 (zg (zf 1 [AV.int .u32 (Int.tdiv (1000000000 : Int) ((↑(List.getD (canon y) (Int.toNat ((↑(canon y).length : Int) - (1 : Int))) 0) : Int) + (1 : Int)))]) 0)] [AV.sl (canon x_1.1).length 1 (natG .u32 (canon x_1.1)), AV.sl (canon x_1.2).length 1 (natG .u32 (canon x_1.2))] ∧ fits x_1.1 ∧ fits x_1.2) fun n => .all (fun (p : Nat) => p = n.1 * n.2) fun n_1 => .leaf (.loop (Prod.fst (lps K85 0)) (Prod.snd (lps K85 0)) [(0, .sl (canon x).length 1 (natG .u32 (canon x))), (1, .sl (canon y).length 1 (natG .u32 (canon y))), (4, .nils), (8, .int .u32 (Int.tdiv (1000000000 : Int) ((↑(List.getD (canon y) (Int.toNat ((↑(canon y).length : Int) - (1 : Int))) 0) : Int) + (1 : Int)))), (9, .int .i64 (↑(canon y).length : Int)), (10, .osl 1 1 0 (canon n_1).length), (11, .undef), (12, .undef), (13, .undef), (15, .undef), (151, .undef), (152, .undef)] [.arr 1 1 (zf 1 [.int .u32 (Int.tdiv (1000000000 : Int) ((↑(List.getD (canon y) (Int.toNat ((↑(canon y).length : Int) - (1 : Int))) 0) : Int) + (1 : Int)))]), .arr (List.length (canon n.1) + List.length (canon n.2)) 1 (natG .u32 (padN (List.length (canon n.1) + List.length (canon n.2)) n_1))])))))))))) (by kernel_rfl) ?_
 simp only [Tree.holds, zd, inR, lo, hi]
 refine ⟨(x, y), ⟨by simp [za], by simp only [fits]; omega, by simp only [fits]; omega⟩, ⟨_, rfl⟩, ?_⟩
 rintro c rfl
 have hyl : 0 < (canon y).length := jk (n := 0) (by simp; omega)
 refine ⟨fun hlt => ?_, fun hge => ⟨fun h1 => ⟨by omega, fun _ => ?_⟩, fun hn => ?_⟩⟩
 ·have hxy : x < y := by
   simp only [cmp3, decide_eq_true_eq] at hlt
   rcases Nat.lt_or_ge x y with h | h
   ·exact h
   ·rw [if_neg (by omega)] at hlt; split at hlt <;> omega
  rw [Nat.div_eq_of_lt hxy, Nat.mod_eq_of_lt hxy] at hq
  refine RetR.out0 hq (fun h => by cases h) ?_
  simp [resV, exp2, exp1, exp0, ren0, eqA2, eqL1, magS, natS, zO, za]
 ·have h1 : (canon y).length = 1 := by simp at h1; omega
  have hyd : y = (canon y).getD 0 0 := by
   have := zk y
   obtain ⟨a, ha⟩ := List.length_eq_one_iff.1 h1
   rw [ha] at this ⊢
   simp [val] at this ⊢; omega
  have hyB : y < B := hyd ▸ zE (zj y) 0
  rw [← hyd]
  refine ⟨(x, y), ⟨by simp [za], by simp only [fits]; omega, hy0, hyB⟩, ⟨_, rfl⟩, ?_⟩
  rintro r rfl
  have hm := Nat.mod_lt x hy0
  have hmB : x % y < B := by omega
  refine ⟨[x % y], ⟨rfl, by omega, by omega, vY _ _, by simpa [dig] using hmB⟩, ⟨_, rfl⟩, ?_⟩
  intro X hX
  have hX : X = x % y := by simpa [val] using hX
  subst hX
  refine RetR.out0 hq (fun h => by cases h) ?_
  simp only [resV, exp2, List.map_cons, List.map_nil, exp1, exp0, ren0, zq, frz1, qw, List.getElem?_cons_zero, if_true, eqA2, eqL1, eqA, eqA0, magS, natS, true_and, and_true]
  exact ⟨za _ _ _, wm hmB⟩
 ·have hn : 2 ≤ (canon y).length := by simp at hn; omega
  obtain ⟨m, hm⟩ : ∃ m, (canon y).length = m + 2 := ⟨(canon y).length - 2, by omega⟩
  have e1 : ((((canon y).length : Nat) : Int) - 1).toNat = m + 1 := by omega
  have hty := zE (zj y) (m + 1)
  have htop : (canon y).getD (m + 1) 0 ≠ 0 := by
   have := qa (canon y) (by rw [qQ]; omega)
   rw [qQ, hm] at this
   exact this
  have hyv : ∃ r, r < B ^ (m + 1) ∧ y = r + B ^ (m + 1) * (canon y).getD (m + 1) 0 := by
   refine ⟨val ((canon y).take (m + 1)), ?_, ?_⟩
   ·have := zM (q7 (zj y) (m + 1))
    rwa [List.length_take, Nat.min_eq_left (by omega)] at this
   ·have := zp (canon y) (m + 1)
    rwa [List.take_of_length_le (by omega), zk] at this
  rw [e1]
  generalize (canon y).getD (m + 1) 0 = t at hty htop hyv ⊢
  have e2 : Int.tdiv 1000000000 ((t : Int) + 1) = ((B / (t + 1) : Nat) : Int) := by
   have : ((t : Int) + 1) = ((t + 1 : Nat) : Int) := by omega
   rw [this]; rfl
  rw [e2]
  obtain ⟨s, hs⟩ : ∃ s, B / (t + 1) = s := ⟨_, rfl⟩
  obtain ⟨hs0, hs1, hs2⟩ := UW (by omega) hs.symm hty
  rw [hs]
  have hsB : s < B := by
   have : s * 2 ≤ s * (t + 1) := Nat.mul_le_mul_left _ (by omega)
   omega
  obtain ⟨r0, hr0, hyr⟩ := hyv
  obtain ⟨hV1, hV2⟩ := scaled hr0 hyr hs0 hs1 hs2
  refine ⟨by omega, fun _ => ⟨by omega, fun _ => ⟨by omega, fun _ => ⟨by omega, fun _ => ⟨by omega, fun _ => ⟨by omega, fun _ => ?_⟩⟩⟩⟩⟩⟩
  have hsl := Q3 hs0 hsB
  refine ⟨(x, s), ⟨?_, by simp only [fits]; omega, by simp only [fits]; omega⟩, ⟨_, rfl⟩, ?_⟩
  ·simp only [eqL, eqA, eqA0, true_and, and_true]
   refine ⟨za _ _ _, hsl.symm, ?_⟩
   have := wm hsB
   rwa [hsl] at this
  intro U hU
  simp only at hU ⊢
  rw [hsl]
  have hxs : U < B ^ ((canon x).length + 1) := by
   have h1 := zM (zj x)
   rw [zk] at h1
   rw [hU, Nat.pow_succ]
   exact Nat.mul_lt_mul'' h1 hsB
  have hUl := zx hxs
  have hcan : (canon x).length + 1 ≥ m + 2 := by
   rcases Nat.lt_or_ge (canon x).length (m + 1) with h | h
   ·exfalso
    have := qc (x := x) (y := y) (by omega)
    simp [cmp3, this] at hge
   ·omega
  have hylx : (canon y).length ≤ (canon x).length := by
   rcases Nat.lt_or_ge (canon x).length (canon y).length with h | h
   ·exfalso
    have := qc h
    simp [cmp3, this] at hge
   ·exact h
  refine zc.loop (ι := IG x U) (fun i => SG x y s i.k) (fun i => [.dead, .arr i.o.length 1 (natG .u32 i.o)]) (fun i => (canon x).length + 1 - i.k)
   ⟨(canon U).length, padN ((canon x).length + 1) U, by rw [J9 hUl]; exact hUl, by rw [J9 hUl]; omega, q7 (zcd _ _) _, by simp [padN, zk]⟩ 0 ?_ ?_ (by kernel_rfl)
  ·exact ⟨by simp [SG, magS, natS, za], by simp [za, J9 hUl], by kernel_rfl, Nat.zero_le _⟩
  ·rintro ⟨k, o, hko, hol, hdo, hvo⟩
   refine zc.run hmix Vq [0, 1, 4, 8, 9, 10, 11, 12, 13, 15, 151, 152] 400 (T := .ite (decide ((↑k : Int) ≤ (↑(canon x).length : Int))) (.side (0 = 0 ∧ k ≤ o.length ∧ (k + 1) * 4 ≤ 140737488355328) (.leaf (.back 0 [(0, .sl (canon x).length 1 (natG .u32 (canon x))), (1, .sl (canon y).length 1 (natG .u32 (canon y))), (4, .nils), (8, .int .u32 s), (9, .int .i64 (↑(canon y).length : Int)), (10, .osl 1 1 0 (k + 1)), (11, .undef), (12, .undef), (13, .undef), (15, .undef), (151, .undef), (152, .undef)] [.dead, .arr (k + 1) 1 (appG k (natG .u32 o) (zg (zf 1 [.int .u32 0]) 0)), .arr 1 1 (zf 1 [.int .u32 0])]))) (.ex (fun (x : Nat × Nat) => eqL [AV.sl (canon y).length 1 (natG .u32 (canon y)), AV.sl 1 1 (zg (zf 1 [AV.int .u32 s]) 0)] [AV.sl (canon x.1).length 1 (natG .u32 (canon x.1)), AV.sl (canon x.2).length 1 (natG .u32 (canon x.2))] ∧ fits x.1 ∧ fits x.2) fun n => .all (fun (p : Nat) => p = n.1 * n.2) fun n_1 => .side (inR .i64 ((↑k : Int) - (↑(canon y).length : Int))) (.side ((0 : Int) ≤ k - (↑(canon y).length : Int) ∧ (↑k : Int) - (↑(canon y).length : Int) ≤ k - (↑(canon y).length : Int) ∧ inR .i64 ((↑k : Int) - (↑(canon y).length : Int)) ∧ Int.toNat ((↑k : Int) - (↑(canon y).length : Int)) * 4 ≤ 140737488355328) (.side (inR .i64 ((↑k : Int) - (↑(canon y).length : Int))) (.side (inR .i64 ((↑k : Int) - (↑(canon y).length : Int) - (1 : Int))) (.leaf (.loop (Prod.fst (lps (inside K85 0) 0)) (Prod.snd (lps (inside K85 0) 0)) [(0, .sl (canon x).length 1 (natG .u32 (canon x))), (1, .sl (canon y).length 1 (natG .u32 (canon y))), (4, .osl 4 1 0 (Int.toNat ((↑k : Int) - (↑(canon y).length : Int)))), (8, .int .u32 s), (9, .int .i64 (↑(canon y).length : Int)), (10, .osl 1 1 0 k), (11, .osl 3 1 0 (canon n_1).length), (12, .int .i64 ((↑k : Int) - (↑(canon y).length : Int) - (1 : Int))), (13, .undef), (15, .undef), (151, .undef), (152, .undef)] [.dead, .arr o.length 1 (natG .u32 o), .arr 1 1 (zf 1 [.int .u32 s]), .arr (List.length (canon n.1) + List.length (canon n.2)) 1 (natG .u32 (padN (List.length (canon n.1) + List.length (canon n.2)) n_1)), .arr (Int.toNat ((↑k : Int) - (↑(canon y).length : Int))) 1 (kP [.int .u32 0])]))))))) (by kernel_rfl) ?_
   simp only [Tree.holds, zd, inR, lo, hi]
   refine ⟨fun hk => ?_, fun hk => ?_⟩
   ·have hk : k ≤ (canon x).length := by simp at hk; omega
    refine ⟨⟨trivial, hko, by omega⟩, fun _ => ?_⟩
    rw [if_pos trivial]
    have hkl : (o.take k).length = k := by rw [List.length_take]; omega
    refine ⟨⟨k + 1, o.take k ++ [0], by simp [hkl], by simp [hkl]; omega, ?_, ?_⟩, by show _ - (k + 1) < _ - k; omega, by simp [SG, magS, natS, za], ?_, by kernel_rfl, Nat.zero_le _⟩
    ·rw [List.take_of_length_le (by simp [hkl])]; exact q5.2 ⟨hdo, by simp [dig]⟩
    ·rw [List.take_of_length_le (by simp [hkl]), z2]; simp [val, hvo]
    ·refine ⟨trivial, ⟨by simp [hkl], rfl, ?_⟩, trivial⟩
     intro j o' hj ho'
     have : o' = 0 := by omega
     subst this
     simp only [appG, zg, zf, natG]
     by_cases h : j < k
     ·rw [if_pos h]
      simp only [List.getD]
      rw [List.getElem?_append_left (by omega), List.getElem?_take, if_pos h]
     ·have : j = k := by omega
      subst this
      rw [if_neg h]
      simp [List.getElem?_append_right, hkl]
   ·have hk : k = (canon x).length + 1 := by simp at hk; omega
    have hok : o.length = (canon x).length + 1 := by omega
    rw [List.take_of_length_le (by omega)] at hdo hvo
    refine ⟨(y, s), ⟨?_, by simp only [fits]; omega, by simp only [fits]; omega⟩, ⟨_, rfl⟩, ?_⟩
    ·simp only [eqL, eqA, eqA0, true_and, and_true]
     refine ⟨za _ _ _, hsl.symm, ?_⟩
     have := wm hsB
     rwa [hsl] at this
    intro V hV
    simp only at hV ⊢
    rw [hsl]
    rw [← hV] at hV1 hV2
    have hVl : (canon V).length = m + 2 := by
     have h1 := zx hV1
     have h2 : B ^ (m + 1) ≤ V := by
      have : B ^ (m + 1 + 1) = B ^ (m + 1) * B := Nat.pow_succ ..
      rw [this] at hV2
      have : B ^ (m + 1) * 2 ≤ B ^ (m + 1) * B := Nat.mul_le_mul_left _ (by decide)
      omega
     have := jk h2
     omega
    have hV0 : 0 < V := by
     rcases Nat.eq_zero_or_pos V with h | h
     ·rw [h, zO] at hVl; simp at hVl
     ·exact h
    have eq0 : ((k : Int) - ((canon y).length : Int)).toNat = k - (canon y).length := by omega
    rw [eq0]
    refine ⟨by omega, fun _ => ⟨by omega, fun _ => ⟨by omega, fun _ => ⟨by omega, fun _ => ?_⟩⟩⟩⟩
    have hqe : U / V = x / y ∧ U % V = x % y * s := by
     rw [hU, hV]
     exact ⟨Nat.mul_div_mul_right _ _ hs0, Nat.mul_mod_mul_right _ _ _⟩
    refine zc.loop (ι := ID x y V U) (fun i => SD y s V i.u.length i.q.length i.j) (fun i => HD y V i.u i.q) (fun i => i.j)
     ⟨o, List.replicate (k - (canon y).length) 0, k - (canon y).length, hok, by simp; omega, by simp, hdo, qo _, by simp [val, hvo], ?_⟩ 0 ?_ ?_ (by kernel_rfl)
    ·rw [hvo]
     have h1 : U * 2 ≤ x * B := by
      rw [hU, Nat.mul_assoc]
      refine Nat.mul_le_mul_left _ ?_
      have : s * 2 ≤ s * (t + 1) := Nat.mul_le_mul_left _ (by omega)
      omega
     have h2 : x < B ^ (canon x).length := by have := zM (zj x); rwa [zk] at this
     have h3 : B ^ (m + 1 + 1) * B ^ (k - (canon y).length) ≤ 2 * V * B ^ (k - (canon y).length) := Nat.mul_le_mul_right _ hV2
     rw [← Nat.pow_add, show m + 1 + 1 + (k - (canon y).length) = (canon x).length + 1 by omega, Nat.pow_succ] at h3
     have h4 : x * B < B ^ (canon x).length * B := Nat.mul_lt_mul_of_pos_right h2 (by decide)
     rw [Nat.mul_assoc] at h3
     omega
    ·refine ⟨?_, ?_, by kernel_rfl, Nat.zero_le _⟩
     ·simp [SD, hVl, hm, hok, hk, za]; omega
     ·simp [HD, za, ug]
    ·rintro ⟨u, q, j, hul, hql, hjq, hdu, hdq, heq, hlt⟩
     rcases j with _ | i
     ·refine zc.run hmix Vq [0, 1, 4, 8, 9, 10, 11, 12, 13, 15, 151, 152] 400 (T := .ite false (.side (inR .i64 ((-1 : Int) + (↑(canon y).length : Int))) (.side ((0 : Int) ≤ (-1 : Int) + (↑(canon y).length : Int) ∧ (-1 : Int) + (↑(canon y).length : Int) < u.length) (.side (inR .u64 (↑(List.getD u (0 + Int.toNat ((-1 : Int) + (↑(canon y).length : Int))) 0) : Int)) (.side (inR .i64 ((-1 : Int) + (↑(canon y).length : Int))) (.side (inR .i64 ((-1 : Int) + (↑(canon y).length : Int) - (1 : Int))) (.side ((0 : Int) ≤ (-1 : Int) + (↑(canon y).length : Int) - (1 : Int) ∧ (-1 : Int) + (↑(canon y).length : Int) - (1 : Int) < u.length) (.side (inR .u64 (↑(List.getD u (0 + Int.toNat ((-1 : Int) + (↑(canon y).length : Int) - (1 : Int))) 0) : Int)) (.side (inR .i64 ((-1 : Int) + (↑(canon y).length : Int))) (.side (inR .i64 ((-1 : Int) + (↑(canon y).length : Int) - (2 : Int))) (.side ((0 : Int) ≤ (-1 : Int) + (↑(canon y).length : Int) - (2 : Int) ∧ (-1 : Int) + (↑(canon y).length : Int) - (2 : Int) < u.length) (.side (inR .u64 (↑(List.getD u (0 + Int.toNat ((-1 : Int) + (↑(canon y).length : Int) - (2 : Int))) 0) : Int)) (.side (inR .i64 ((↑(canon y).length : Int) - (1 : Int))) (.side ((0 : Int) ≤ (↑(canon y).length : Int) - (1 : Int) ∧ (↑(canon y).length : Int) - (1 : Int) < (↑(List.length (canon V)) : Int)) (.side (inR .u64 (↑(List.getD (padN (List.length (canon y) + 1) V) (0 + Int.toNat ((↑(canon y).length : Int) - (1 : Int))) 0) : Int)) (.side (inR .i64 ((↑(canon y).length : Int) - (2 : Int))) (.side ((0 : Int) ≤ (↑(canon y).length : Int) - (2 : Int) ∧ (↑(canon y).length : Int) - (2 : Int) < (↑(List.length (canon V)) : Int)) (.side (inR .u64 (↑(List.getD (padN (List.length (canon y) + 1) V) (0 + Int.toNat ((↑(canon y).length : Int) - (2 : Int))) 0) : Int)) (.ex (fun (x : D5) => eqL [AV.int .u64 (↑(List.getD u (0 + Int.toNat ((-1 : Int) + (↑(canon y).length : Int))) 0) : Int), AV.int .u64 (↑(List.getD u (0 + Int.toNat ((-1 : Int) + (↑(canon y).length : Int) - (1 : Int))) 0) : Int), AV.int .u64 (↑(List.getD u (0 + Int.toNat ((-1 : Int) + (↑(canon y).length : Int) - (2 : Int))) 0) : Int), AV.int .u64 (↑(List.getD (padN (List.length (canon y) + 1) V) (0 + Int.toNat ((↑(canon y).length : Int) - (1 : Int))) 0) : Int), AV.int .u64 (↑(List.getD (padN (List.length (canon y) + 1) V) (0 + Int.toNat ((↑(canon y).length : Int) - (2 : Int))) 0) : Int)] [AV.int .u64 (↑(D5.t x) : Int), AV.int .u64 (↑(D5.u x) : Int), AV.int .u64 (↑(D5.v x) : Int), AV.int .u64 (↑(D5.y x) : Int), AV.int .u64 (↑(D5.z x) : Int)] ∧ D5.t x ≤ D5.y x ∧ D5.u x < 1000000000 ∧ D5.v x < 1000000000 ∧ D5.y x < 1000000000 ∧ D5.z x < 1000000000 ∧ 1000000000 ≤ 2 * D5.y x) fun n => .all (fun (n_1 : Nat) => n_1 = qJ (D5.v n) (D5.y n) (D5.z n) 2 ((D5.t n * 1000000000 + D5.u n) / D5.y n) ((D5.t n * 1000000000 + D5.u n) % D5.y n)) fun n => .side (inR .u32 (↑n : Int)) (.ex (fun (u : List Nat) => u.length = 1 ∧ 1 ≤ 1 ∧ 1 < 4611686018427387904 ∧ eqG 1 1 (zf 1 [AV.int .u32 n]) (natG .u32 u) ∧ dig (List.take 1 (List.drop 0 u))) fun n_1 => .all (fun (x : Nat) => x = val (List.take 1 (List.drop 0 n_1))) fun n_2 => .ex (fun (x : Nat × Nat) => eqL [AV.sl (List.length (canon V)) 1 (zg (natG .u32 (padN (List.length (canon y) + 1) V)) 0), AV.sl (canon n_2).length 1 (zg (zf 1 [AV.int .u32 n]) 0)] [AV.sl (canon x.1).length 1 (natG .u32 (canon x.1)), AV.sl (canon x.2).length 1 (natG .u32 (canon x.2))] ∧ fits x.1 ∧ fits x.2) fun n_3 => .all (fun (p : Nat) => p = n_3.1 * n_3.2) fun n_4 => .side (inR .i64 ((-1 : Int) + (↑(canon y).length : Int))) (.side (inR .i64 ((-1 : Int) + (↑(canon y).length : Int) + (1 : Int))) (.side ((0 : Int) ≤ (-1 : Int) ∧ (-1 : Int) ≤ (-1 : Int) + (↑(canon y).length : Int) + (1 : Int) ∧ (-1 : Int) + (↑(canon y).length : Int) + (1 : Int) ≤ u.length) (.ex (fun (u_1 : List Nat) => u_1.length = u.length ∧ 0 + (Int.toNat ((-1 : Int) + (↑(canon y).length : Int) + (1 : Int)) - 0) ≤ u.length ∧ Int.toNat ((-1 : Int) + (↑(canon y).length : Int) + (1 : Int)) - 0 < 4611686018427387904 ∧ eqG u.length 1 (natG .u32 u) (natG .u32 u_1) ∧ dig (List.take (Int.toNat ((-1 : Int) + (↑(canon y).length : Int) + (1 : Int)) - 0) (List.drop 0 u_1))) fun n_5 => .all (fun (x : Nat) => x = val (List.take (Int.toNat ((-1 : Int) + (↑(canon y).length : Int) + (1 : Int)) - 0) (List.drop 0 n_5))) fun n_6 => .ex (fun (x : Nat × Nat) => eqL [AV.sl (canon n_6).length 1 (zg (natG .u32 u) 0), AV.sl (canon n_4).length 1 (zg (natG .u32 (padN (List.length (canon n_3.1) + List.length (canon n_3.2)) n_4)) 0)] [AV.sl (canon x.1).length 1 (natG .u32 (canon x.1)), AV.sl (canon x.2).length 1 (natG .u32 (canon x.2))] ∧ fits x.1 ∧ fits x.2) fun n_7 => .all (fun (r : Int) => r = cmp3 n_7.1 n_7.2) fun n_8 => .ite (decide (n_8 < 0)) (.side (inR .u64 ((↑n : Int) - (1 : Int))) (.side (inR .u32 ((↑n : Int) - (1 : Int))) (.ex (fun (u : List Nat) => u.length = 1 ∧ 1 ≤ 1 ∧ 1 < 4611686018427387904 ∧ eqG 1 1 (zf 1 [AV.int .u32 ((↑n : Int) - (1 : Int))]) (natG .u32 u) ∧ dig (List.take 1 (List.drop 0 u))) fun n_9 => .all (fun (x : Nat) => x = val (List.take 1 (List.drop 0 n_9))) fun n_10 => .ex (fun (x : Nat × Nat) => eqL [AV.sl (List.length (canon V)) 1 (zg (natG .u32 (padN (List.length (canon y) + 1) V)) 0), AV.sl (canon n_10).length 1 (zg (zf 1 [AV.int .u32 ((↑n : Int) - (1 : Int))]) 0)] [AV.sl (canon x.1).length 1 (natG .u32 (canon x.1)), AV.sl (canon x.2).length 1 (natG .u32 (canon x.2))] ∧ fits x.1 ∧ fits x.2) fun n_11 => .all (fun (p : Nat) => p = n_11.1 * n_11.2) fun n_12 => .side (inR .i64 ((-1 : Int) + (↑(canon y).length : Int))) (.side (inR .i64 ((-1 : Int) + (↑(canon y).length : Int) + (1 : Int))) (.side ((0 : Int) ≤ (-1 : Int) ∧ (-1 : Int) ≤ (-1 : Int) + (↑(canon y).length : Int) + (1 : Int) ∧ (-1 : Int) + (↑(canon y).length : Int) + (1 : Int) ≤ u.length) (.ex (fun (u_1 : List Nat) => u_1.length = u.length ∧ 0 + (Int.toNat ((-1 : Int) + (↑(canon y).length : Int) + (1 : Int)) - 0) ≤ u.length ∧ Int.toNat ((-1 : Int) + (↑(canon y).length : Int) + (1 : Int)) - 0 < 4611686018427387904 ∧ eqG u.length 1 (natG .u32 u) (natG .u32 u_1) ∧ dig (List.take (Int.toNat ((-1 : Int) + (↑(canon y).length : Int) + (1 : Int)) - 0) (List.drop 0 u_1))) fun n_13 => .all (fun (x : Nat) => x = val (List.take (Int.toNat ((-1 : Int) + (↑(canon y).length : Int) + (1 : Int)) - 0) (List.drop 0 n_13))) fun n_14 => .ex (fun (x : Nat × Nat) => eqL [AV.sl (canon n_14).length 1 (zg (natG .u32 u) 0), AV.sl (canon n_12).length 1 (zg (natG .u32 (padN (List.length (canon n_11.1) + List.length (canon n_11.2)) n_12)) 0)] [AV.sl (canon x.1).length 1 (natG .u32 (canon x.1)), AV.sl (canon x.2).length 1 (natG .u32 (canon x.2))] ∧ fits x.1 ∧ x.2 ≤ x.1) fun n_15 => .all (fun (d : Nat) => d = n_15.1 - n_15.2) fun n_16 => .side (inR .i64 ((↑(canon y).length : Int) + (1 : Int))) (.leaf (.loop (Prod.fst (lps (inside (inside K85 0) 0) 0)) (Prod.snd (lps (inside (inside K85 0) 0) 0)) [(0, .undef), (1, .undef), (4, .osl 4 1 0 q.length), (8, .int .u32 s), (9, .int .i64 (↑(canon y).length : Int)), (10, .osl 1 1 0 u.length), (11, .osl 3 1 0 (List.length (canon V))), (12, .int .i64 (-1 : Int)), (13, .int .u64 ((↑n : Int) - (1 : Int))), (15, .sl (canon n_16).length 1 (natG .u32 (canon n_16))), (151, .int .i64 ((↑(canon y).length : Int) + (1 : Int))), (152, .int .i64 0)] [.dead, .arr u.length 1 (natG .u32 u), .dead, .arr (List.length (canon y) + 1) 1 (natG .u32 (padN (List.length (canon y) + 1) V)), .arr q.length 1 (natG .u32 q), .arr 1 1 (zf 1 [.int .u32 n]), .arr (List.length (canon n_3.1) + List.length (canon n_3.2)) 1 (natG .u32 (padN (List.length (canon n_3.1) + List.length (canon n_3.2)) n_4)), .arr 1 1 (zf 1 [.int .u32 ((↑n : Int) - (1 : Int))]), .arr (List.length (canon n_11.1) + List.length (canon n_11.2)) 1 (natG .u32 (padN (List.length (canon n_11.1) + List.length (canon n_11.2)) n_12))])))))))) (.side (inR .i64 ((-1 : Int) + (↑(canon y).length : Int))) (.side (inR .i64 ((-1 : Int) + (↑(canon y).length : Int) + (1 : Int))) (.side ((0 : Int) ≤ (-1 : Int) ∧ (-1 : Int) ≤ (-1 : Int) + (↑(canon y).length : Int) + (1 : Int) ∧ (-1 : Int) + (↑(canon y).length : Int) + (1 : Int) ≤ u.length) (.ex (fun (u_1 : List Nat) => u_1.length = u.length ∧ 0 + (Int.toNat ((-1 : Int) + (↑(canon y).length : Int) + (1 : Int)) - 0) ≤ u.length ∧ Int.toNat ((-1 : Int) + (↑(canon y).length : Int) + (1 : Int)) - 0 < 4611686018427387904 ∧ eqG u.length 1 (natG .u32 u) (natG .u32 u_1) ∧ dig (List.take (Int.toNat ((-1 : Int) + (↑(canon y).length : Int) + (1 : Int)) - 0) (List.drop 0 u_1))) fun n_9 => .all (fun (x : Nat) => x = val (List.take (Int.toNat ((-1 : Int) + (↑(canon y).length : Int) + (1 : Int)) - 0) (List.drop 0 n_9))) fun n_10 => .ex (fun (x : Nat × Nat) => eqL [AV.sl (canon n_10).length 1 (zg (natG .u32 u) 0), AV.sl (canon n_4).length 1 (zg (natG .u32 (padN (List.length (canon n_3.1) + List.length (canon n_3.2)) n_4)) 0)] [AV.sl (canon x.1).length 1 (natG .u32 (canon x.1)), AV.sl (canon x.2).length 1 (natG .u32 (canon x.2))] ∧ fits x.1 ∧ x.2 ≤ x.1) fun n_11 => .all (fun (d : Nat) => d = n_11.1 - n_11.2) fun n_12 => .side (inR .i64 ((↑(canon y).length : Int) + (1 : Int))) (.leaf (.loop (Prod.fst (lps (inside (inside K85 0) 0) 0)) (Prod.snd (lps (inside (inside K85 0) 0) 0)) [(0, .undef), (1, .undef), (4, .osl 4 1 0 q.length), (8, .int .u32 s), (9, .int .i64 (↑(canon y).length : Int)), (10, .osl 1 1 0 u.length), (11, .osl 3 1 0 (List.length (canon V))), (12, .int .i64 (-1 : Int)), (13, .int .u64 n), (15, .sl (canon n_12).length 1 (natG .u32 (canon n_12))), (151, .int .i64 ((↑(canon y).length : Int) + (1 : Int))), (152, .int .i64 0)] [.dead, .arr u.length 1 (natG .u32 u), .dead, .arr (List.length (canon y) + 1) 1 (natG .u32 (padN (List.length (canon y) + 1) V)), .arr q.length 1 (natG .u32 q), .arr 1 1 (zf 1 [.int .u32 n]), .arr (List.length (canon n_3.1) + List.length (canon n_3.2)) 1 (natG .u32 (padN (List.length (canon n_3.1) + List.length (canon n_3.2)) n_4))])))))))))))))))))))))))))))) (.ex (fun (u_1 : List Nat) => u_1.length = u.length ∧ 0 + u.length ≤ u.length ∧ u.length < 4611686018427387904 ∧ eqG u.length 1 (natG .u32 u) (natG .u32 u_1) ∧ dig (List.take u.length (List.drop 0 u_1))) fun n => .all (fun (x : Nat) => x = val (List.take u.length (List.drop 0 n))) fun n => .ex (fun (x : Nat × Nat) => eqL [AV.sl (canon n).length 1 (zg (natG .u32 u) 0), AV.int .u32 s] [AV.sl (canon x.1).length 1 (natG .u32 (canon x.1)), AV.int .u32 x.2] ∧ fits x.1 ∧ 0 < x.2 ∧ x.2 < 1000000000) fun n => .all (fun (r : Nat × Nat) => r = (n.1 / n.2, n.1 % n.2)) fun n => .ex (fun (u : List Nat) => u.length = q.length ∧ 0 + q.length ≤ q.length ∧ q.length < 4611686018427387904 ∧ eqG q.length 1 (natG .u32 q) (natG .u32 u) ∧ dig (List.take q.length (List.drop 0 u))) fun n_1 => .all (fun (x : Nat) => x = val (List.take q.length (List.drop 0 n_1))) fun n_2 => .leaf (.ret [.osl 4 1 0 (canon n_2).length, .sl (canon n.1).length 1 (natG .u32 (canon n.1))] [.dead, .arr u.length 1 (natG .u32 u), .dead, .arr (List.length (canon y) + 1) 1 (natG .u32 (padN (List.length (canon y) + 1) V)), .arr q.length 1 (natG .u32 q)]))) (by kernel_rfl) ?_
      simp only [Tree.holds, zd, inR, lo, hi]
      refine ⟨fun hj => by simp at hj, fun hj => ?_⟩
      simp only [List.drop_zero, Nat.pow_zero, Nat.mul_one] at heq hlt
      have hdiv : U / V = val q ∧ U % V = val u := by
       rw [heq]
       exact ⟨by rw [Nat.mul_add_div hV0, Nat.div_eq_of_lt hlt, Nat.add_zero], by rw [Nat.mul_add_mod, Nat.mod_eq_of_lt hlt]⟩
      have hqv : val q = x / y := by rw [← hdiv.1, hqe.1]
      have huv : val u = x % y * s := by rw [← hdiv.2, hqe.2]
      refine ⟨u, ⟨rfl, by omega, by omega, za _ _ _, by simpa using hdu⟩, ⟨_, rfl⟩, ?_⟩
      intro X hX
      have hX : X = x % y * s := by simpa [huv] using hX
      have hw : val ((u.drop 0).take u.length) = X := by simp [huv, hX]
      have hXl := jn (k := .u32) (u := u) (off := 0) (n := u.length) (by simpa using hdu) hw
      have hmy := Nat.mod_lt x hy0
      have hXlen : (canon X).length ≤ u.length := by
       refine zx ?_
       rw [hX, ← huv]; exact zM hdu
      refine ⟨(X, s), ⟨?_, by simp only [fits]; omega, hs0, hsB⟩, ⟨_, rfl⟩, ?_⟩
      ·simp only [eqL, eqA, eqA0, true_and, and_true]
       exact hXl
      rintro r rfl
      have hXs : X / s = x % y := by rw [hX]; exact Nat.mul_div_cancel _ hs0
      simp only [hXs]
      refine ⟨q, ⟨rfl, by omega, by omega, za _ _ _, by simpa using hdq⟩, ⟨_, rfl⟩, ?_⟩
      intro Y hY
      have hY : Y = x / y := by simpa [hqv] using hY
      subst hY
      refine RetR.out0 hq (fun h => by cases h) ?_
      have hw2 : val ((q.drop 0).take q.length) = x / y := by simp [hqv]
      simp only [resV, exp2, List.map_cons, List.map_nil, exp1, exp0, ren0, zq, frz1, qw, List.getElem?_cons_zero, List.getElem?_cons_succ, if_true, eqA2, eqL1, eqA, eqA0, magS, natS, true_and, and_true]
      exact ⟨jn (by simpa using hdq) hw2, za _ _ _⟩
     ·exact JT hm hx hs0 hsB hV1 hV2 hVl hV0 hul hql hjq hdu hdq heq hlt
end Go.Proofs.Tryz
end

/- The integers' texts: reading. -/
section
set_option maxRecDepth 100000
open Go Go.Sx Go.Proofs Go.Nov
namespace Go.Proofs.Tryz
attribute [local simp] eqKV eqA eqA0 eqH eqB eqL eqL0
noncomputable def K101 : List Go.Sx.Item := [.code (Tryz.f101.body.getD .skip)]
def X0 : Ctr := ctrT false false (fun s : List UInt8 => [.str s]) (fun _ => []) (fun _ => True) (fun _ (_ : Unit) => True) (fun s _ => (.fn 123 [] [.ptr 0 0], [.box [.str s]]))
theorem YQ : ze Tryz.prog 115 X0 := by
 refine jh (fn := Tryz.f115) (c := Tryz.f115.body.getD .skip) rfl rfl rfl (fun h => by cases h) fun s hp O w0 σ0 Q hl hq => ?_
 have h0 : σ0 = [] := List.length_eq_zero_iff.1 (by simpa using hl)
 subst h0
 refine zc.run hmix zr [0] 400 (T := .leaf (.ret [.fn 123 [] [.ptr 0 0]] [.box [.str s]])) (by kernel_rfl) ?_
 simp only [Tree.holds, zd]
 exact RetR.out1 0 (by simp) (hq () trivial) (fun h => by cases h) (by simp [resV, exp2, exp1, exp0, zq, ren0, eqA2]) (by simp [expB, exp1, exp0, ren0])
noncomputable def G3 : Nat → Option Ctr := fun f => if f = 115 then some (X0) else if f = 104 then some (uG) else none
theorem QW : ∀ g c, G3 g = some c → ze Tryz.prog g c := okIf YQ (okIf JB (zn))
def KR : KV := [(2, .ptr 0 0), (3, .ptr 1 0), (5, .undef), (6, .undef), (16, .fn 123 [] [.ptr 2 0]), (17, .undef), (19, .undef), (20, .undef)]
def HR (neg : Bool) (b : List UInt8) : List Nat → Heap
 | [] => [.box [.bool false, .nils], .box [.bool neg, .nils], .box [.str b]]
 | d :: o => [.box [.bool false, .nils], .box [.bool neg, .osl 4 1 0 (o.length + 1)], .box [.str b], .arr 1 1 (natG .u32 [d]), .arr (o.length + 1) 1 (natG .u32 (d :: o))]
theorem Kf (s : ByteArray) : ∀ e, e ≤ s.size → val ((chunks s e).map decB) = numD (s.data.toList.take e) := by
 intro e
 induction e using Nat.strongRecOn with
 | _ e ih =>
  intro he
  rcases Nat.eq_zero_or_pos e with h | h
  ·subst h; simp [vp, val, numD]
  ·rw [ve s h, List.map_cons, val, ih (e - 9) (by omega) (by omega)]
   have hl : s.data.toList.length = s.size := by rw [Array.length_toList]; rfl
   have h1 : s.data.toList.take e = s.data.toList.take (e - 9) ++ (s.data.toList.take e).drop (e - 9) := by
    conv => lhs; rw [← List.take_append_drop (e - 9) (s.data.toList.take e)]
    rw [List.take_take, Nat.min_eq_left (by omega)]
   rw [h1, k9, decB, yk, Nat.add_comm, Nat.mul_comm]
   congr 1
   rcases Nat.lt_or_ge e 9 with h9 | h9
   ·rw [show e - 9 = 0 by omega]; simp [numD]
   ·congr 1
    have : ((s.data.toList.take e).drop (e - 9)).length = 9 := by simp; omega
    rw [this]
theorem KI (s : ByteArray) (hd : allD s.data.toList) : ∀ e, e ≤ s.size → ∀ x ∈ chunks s e, x.size ≤ 9 ∧ allD x.data.toList := by
 intro e
 induction e using Nat.strongRecOn with
 | _ e ih =>
  intro he x hx
  rcases Nat.eq_zero_or_pos e with h | h
  ·subst h; simp [vp] at hx
  ·rw [ve s h] at hx
   rcases List.mem_cons.1 hx with rfl | hx
   ·refine ⟨by rw [ByteArray.size_extract]; omega, ?_⟩
    rw [yk]
    intro c hc
    exact hd c (List.mem_of_mem_take (List.mem_of_mem_drop hc))
   ·exact ih (e - 9) (by omega) (by omega) x hx
theorem Z2 (s : ByteArray) : ∀ e, (chunks s e).length ≤ e := by
 intro e
 induction e using Nat.strongRecOn with
 | _ e ih =>
  rcases Nat.eq_zero_or_pos e with h | h
  ·subst h; simp [vp]
  ·rw [ve s h, List.length_cons]
   have := ih (e - 9) (by omega)
   omega
abbrev Grp : Type := {x : ByteArray // x.size ≤ 9 ∧ allD x.data.toList}
def UM : Ctr := ctrP false (fun p : Bool × List UInt8 => [.str (sgn p.1 p.2)]) (fun p => allD p.2 ∧ p.2 ≠ [] ∧ p.2.length ≤ 1000000) (fun p r => r = numD p.2) (fun p r => (.agg [.bool p.1, magS r], []))
def SR (x : List UInt8) (v i : Nat) : KV := [(2, .ptr 0 0), (3, .ptr 1 0), (5, .str x), (6, .int .u32 (v : Int)), (16, .undef), (17, .undef), (19, .int .i64 (x.length : Int)), (20, .int .i64 (i : Int))]
theorem YZ {O : Nat → Prop} {W : World} {σ1 : List SE} (l : Nat) (neg : Bool) (b : List UInt8) (o : List Nat) (ho : o.length ≤ 1000000) (y : List UInt8) (hxd : allD y) (hx9 : y.length ≤ 9) (X : Prop) (Hx : Heap) :
  qi (some l) Tryz.prog (bare Tryz.f101) O 3 W σ1 (fun d kv' h' => LeK 3 Tryz.f101.ntmps [] h' [] (HR neg b (o ++ [numD y]))) (fun _ h' => X ∧ LeK 3 Tryz.f101.ntmps [] h' [] Hx) (.code (.loop (lps (roundOf K101 0) 0).1) :: (lps (roundOf K101 0) 0).2)
   (mk Tryz.f101.ntmps [(2, .ptr 0 0), (3, .ptr 1 0), (5, .str y), (6, .int .u32 0), (16, .fn 123 [] [.ptr 2 0]), (17, .str y), (19, .int .i64 (y.length : Int)), (20, .int .i64 0)] (HR neg b o)) := by
 refine zc.loop (ι := {i : Nat // i ≤ y.length}) (fun i => SR y (numD (y.take i.1)) i.1) (fun _ => HR neg b o) (fun i => y.length - i.1) ⟨0, Nat.zero_le _⟩ 1 ?_ ?_ (by kernel_rfl)
 ·refine ⟨by simp [SR, numD], ?_, ?_, ?_⟩
  ·cases o <;> simp [HR, za]
  ·cases o <;> kernel_rfl
  ·cases o <;> simp [HR]
 ·rintro ⟨i, hil⟩
  have hbound : numD (y.take i) < 1000000000 := by
   have h1 := yB (l := y.take i) fun c hc => hxd c (List.mem_of_mem_take hc)
   have h2 : 10 ^ (y.take i).length ≤ 10 ^ 9 := Nat.pow_le_pow_right (by decide) (by rw [List.length_take]; omega)
   have h4 : (10 : Nat) ^ 9 = 1000000000 := by decide
   omega
  have hnext : ∀ h : i < y.length, numD (y.take (i + 1)) = numD (y.take i) * 10 + ((y.getD i 0).toNat - 48) := by
   intro h; rw [V2 y i h, Y7]
  have hdig : i < y.length → 48 ≤ (y.getD i 0).toNat ∧ (y.getD i 0).toNat ≤ 57 := by
   intro h
   have := hxd (y.getD i 0) (by simp [List.getD, h])
   exact this
  have hnb : i < y.length → numD (y.take (i + 1)) < 1000000000 := by
   intro h
   have h1 := yB (l := y.take (i + 1)) fun c hc => hxd c (List.mem_of_mem_take hc)
   have h2 : 10 ^ (y.take (i + 1)).length ≤ 10 ^ 9 := Nat.pow_le_pow_right (by decide) (by rw [List.length_take]; omega)
   have h4 : (10 : Nat) ^ 9 = 1000000000 := by decide
   omega
  obtain ⟨v, hv⟩ : ∃ v, numD (y.take i) = v := ⟨_, rfl⟩
  simp only [hv] at hbound hnext ⊢
  have ei : ((i : Int) + 1) = ((i + 1 : Nat) : Int) := by omega
  cases o with
  | nil =>
   refine zc.run hmix QW [2, 3, 5, 6, 16, 17, 19, 20] 400 (T := .ite (decide ((↑i : Int) < y.length)) (.side (inR .u32 ((↑v : Int) * (10 : Int))) (.side ((0 : Int) ≤ i ∧ (↑i : Int) < y.length) (.side (inR .u8 ((↑(UInt8.toNat (List.getD y (Int.toNat (↑i : Int)) (0 : UInt8))) : Int) - (48 : Int))) (.side (inR .u32 ((↑(UInt8.toNat (List.getD y (Int.toNat (↑i : Int)) (0 : UInt8))) : Int) - (48 : Int))) (.side (inR .u32 ((↑v : Int) * (10 : Int) + ((↑(UInt8.toNat (List.getD y (Int.toNat (↑i : Int)) (0 : UInt8))) : Int) - (48 : Int)))) (.side (inR .i64 ((↑i : Int) + (1 : Int))) (.leaf (.back 1 [(2, .ptr 0 0), (3, .ptr 1 0), (5, .str y), (6, .int .u32 ((↑v : Int) * (10 : Int) + ((↑(UInt8.toNat (List.getD y (Int.toNat (↑i : Int)) (0 : UInt8))) : Int) - (48 : Int)))), (16, .undef), (17, .undef), (19, .int .i64 y.length), (20, .int .i64 ((↑i : Int) + (1 : Int)))] [.box [.bool false, .nils], .box [.bool neg, .nils], .box [.str b]])))))))) (.side (4 ≤ 140737488355328) (.leaf (.back 0 [(2, .ptr 0 0), (3, .ptr 1 0), (5, .str y), (6, .int .u32 v), (16, .undef), (17, .undef), (19, .int .i64 y.length), (20, .int .i64 i)] [.box [.bool false, .nils], .box [.bool neg, .osl 4 1 0 1], .box [.str b], .arr 1 1 (zf 1 [.int .u32 v]), .arr 1 1 (zg (zf 1 [.int .u32 v]) 0)])))) (by kernel_rfl) ?_
   simp only [Tree.holds, zd, inR, lo, hi, Int.toNat_natCast, ei]
   refine ⟨fun hlt => ?_, fun hge => ?_⟩
   ·have hlt : i < y.length := by simp at hlt; omega
    have h1 := hdig hlt
    have h2 := hnb hlt
    have h3 := hnext hlt
    generalize (y.getD i 0).toNat = c at h1 h3 ⊢
    iterate 6 refine ⟨by omega, fun _ => ?_⟩
    rw [if_pos trivial]
    refine ⟨⟨i + 1, hlt⟩, by show y.length - (i + 1) < y.length - i; omega, ?_, by simp [HR], by kernel_rfl, by simp [HR]⟩
    simp [SR, h3]; omega
   ·have hge : i = y.length := by simp at hge; omega
    subst hge
    rw [List.take_length] at hv
    refine ⟨by omega, fun _ => ?_⟩
    rw [if_neg (by decide), hv]
    refine ⟨by simp, ?_, by kernel_rfl, by simp [HR]⟩
    simp only [List.nil_append, HR]
    refine ⟨by simp, by simp, by simp, ⟨rfl, rfl, vY _ _⟩, ⟨rfl, rfl, ?_⟩, trivial⟩
    exact fun j o hj ho => by simpa [zg] using vY .u32 v j o hj ho
  | cons d o =>
   refine zc.run hmix QW [2, 3, 5, 6, 16, 17, 19, 20] 400 (T := .ite (decide ((↑i : Int) < y.length)) (.side (inR .u32 ((↑v : Int) * (10 : Int))) (.side ((0 : Int) ≤ i ∧ (↑i : Int) < y.length) (.side (inR .u8 ((↑(UInt8.toNat (List.getD y (Int.toNat (↑i : Int)) (0 : UInt8))) : Int) - (48 : Int))) (.side (inR .u32 ((↑(UInt8.toNat (List.getD y (Int.toNat (↑i : Int)) (0 : UInt8))) : Int) - (48 : Int))) (.side (inR .u32 ((↑v : Int) * (10 : Int) + ((↑(UInt8.toNat (List.getD y (Int.toNat (↑i : Int)) (0 : UInt8))) : Int) - (48 : Int)))) (.side (inR .i64 ((↑i : Int) + (1 : Int))) (.leaf (.back 1 [(2, .ptr 0 0), (3, .ptr 1 0), (5, .str y), (6, .int .u32 ((↑v : Int) * (10 : Int) + ((↑(UInt8.toNat (List.getD y (Int.toNat (↑i : Int)) (0 : UInt8))) : Int) - (48 : Int)))), (16, .undef), (17, .undef), (19, .int .i64 y.length), (20, .int .i64 ((↑i : Int) + (1 : Int)))] [.box [.bool false, .nils], .box [.bool neg, .osl 4 1 0 (o.length + 1)], .box [.str b], .arr 1 1 (natG .u32 [d]), .arr (o.length + 1) 1 (natG .u32 (d :: o))])))))))) (.side (0 = 0 ∧ o.length + 1 ≤ o.length + 1 ∧ (o.length + 1 + 1) * 4 ≤ 140737488355328) (.leaf (.back 0 [(2, .ptr 0 0), (3, .ptr 1 0), (5, .str y), (6, .int .u32 v), (16, .undef), (17, .undef), (19, .int .i64 y.length), (20, .int .i64 i)] [.box [.bool false, .nils], .box [.bool neg, .osl 4 1 0 (o.length + 1 + 1)], .box [.str b], .arr 1 1 (natG .u32 [d]), .arr (o.length + 1 + 1) 1 (appG (o.length + 1) (natG .u32 (d :: o)) (zg (zf 1 [.int .u32 v]) 0)), .arr 1 1 (zf 1 [.int .u32 v])])))) (by kernel_rfl) ?_
   simp only [Tree.holds, zd, inR, lo, hi, Int.toNat_natCast, ei]
   refine ⟨fun hlt => ?_, fun hge => ?_⟩
   ·have hlt : i < y.length := by simp at hlt; omega
    have h1 := hdig hlt
    have h2 := hnb hlt
    have h3 := hnext hlt
    generalize (y.getD i 0).toNat = c at h1 h3 ⊢
    iterate 6 refine ⟨by omega, fun _ => ?_⟩
    rw [if_pos trivial]
    refine ⟨⟨i + 1, hlt⟩, by show y.length - (i + 1) < y.length - i; omega, ?_, by simp [HR, za], by kernel_rfl, by simp [HR]⟩
    simp [SR, h3]; omega
   ·have hge : i = y.length := by simp at hge; omega
    subst hge
    rw [List.take_length] at hv
    refine ⟨⟨trivial, Nat.le_refl _, by simp only [List.length_cons] at ho; omega⟩, fun _ => ?_⟩
    rw [if_neg (by decide), hv]
    refine ⟨by simp, ?_, by kernel_rfl, by simp [HR]⟩
    simp only [List.cons_append, HR]
    refine ⟨by simp, by simp, by simp, ⟨rfl, rfl, za _ _ _⟩, ⟨by simp, rfl, ?_⟩, trivial⟩
    have := Z5 (k := .u32) (l := d :: o) (v := ((v : Nat) : Int)) (by omega)
    simpa using this
theorem K6 {O : Nat → Prop} {W : World} {σ1 : List SE} (l : Nat) (neg : Bool) (b : List UInt8) (o : List Nat) (ho : o.length ≤ 1000000) (x : Grp) (X : Prop) (Hx : Heap) :
  qi (some l) Tryz.prog (bare Tryz.f101) O 3 W σ1 (fun d kv' h' => LeK 3 Tryz.f101.ntmps [] h' [] (HR neg b (o ++ [decB x.1]))) (fun _ h' => X ∧ LeK 3 Tryz.f101.ntmps [] h' [] Hx) (roundOf K101 0) (mk Tryz.f101.ntmps ((5, .str x.1.data.toList) :: (17, .str x.1.data.toList) :: KR) (HR neg b o)) := by
 obtain ⟨x, hx9, hxd⟩ := x
 simp only
 have hxl : x.data.toList.length = x.size := by rw [Array.length_toList]; rfl
 have hdB : decB x = numD x.data.toList := rfl
 rw [hdB]
 generalize x.data.toList = y at hxd hxl
 have core : qi (some l) Tryz.prog (bare Tryz.f101) O 3 W σ1 (fun d kv' h' => LeK 3 Tryz.f101.ntmps [] h' [] (HR neg b (o ++ [numD y]))) (fun _ h' => X ∧ LeK 3 Tryz.f101.ntmps [] h' [] Hx) (.code (.loop (lps (roundOf K101 0) 0).1) :: (lps (roundOf K101 0) 0).2)
   (mk Tryz.f101.ntmps [(2, .ptr 0 0), (3, .ptr 1 0), (5, .str y), (6, .int .u32 0), (16, .fn 123 [] [.ptr 2 0]), (17, .str y), (19, .int .i64 (y.length : Int)), (20, .int .i64 0)] (HR neg b o)) := by
  exact YZ l neg b o ho y hxd (by omega) X Hx
 cases o with
 | nil =>
  refine zc.run hmix QW [2, 3, 5, 6, 16, 17, 19, 20] 400 (T := .leaf (.loop (Prod.fst (lps (roundOf K101 0) 0)) (Prod.snd (lps (roundOf K101 0) 0)) [(2, .ptr 0 0), (3, .ptr 1 0), (5, .str y), (6, .int .u32 0), (16, .fn 123 [] [.ptr 2 0]), (17, .str y), (19, .int .i64 y.length), (20, .int .i64 0)] [.box [.bool false, .nils], .box [.bool neg, .nils], .box [.str b]])) (by kernel_rfl) ?_
  simp only [Tree.holds, zd]
  exact core
 | cons d o =>
  refine zc.run hmix QW [2, 3, 5, 6, 16, 17, 19, 20] 400 (T := .leaf (.loop (Prod.fst (lps (roundOf K101 0) 0)) (Prod.snd (lps (roundOf K101 0) 0)) [(2, .ptr 0 0), (3, .ptr 1 0), (5, .str y), (6, .int .u32 0), (16, .fn 123 [] [.ptr 2 0]), (17, .str y), (19, .int .i64 y.length), (20, .int .i64 0)] [.box [.bool false, .nils], .box [.bool neg, .osl 4 1 0 (o.length + 1)], .box [.str b], .arr 1 1 (natG .u32 [d]), .arr (o.length + 1) 1 (natG .u32 (d :: o))])) (by kernel_rfl) ?_
  simp only [Tree.holds, zd]
  exact core
theorem za4 (neg : Bool) (b : List UInt8) (o : List Nat) : ∀ x ∈ HR neg b o, alive x := by
 cases o with
 | nil => simp [HR, alive]
 | cons d o => simp [HR, alive]
theorem Yz {O : Nat → Prop} {w0 : World} {Q : AV × Heap → Prop} (neg : Bool) (b : List UInt8) (hb : allD b) (hb0 : b ≠ []) (hbl : b.length ≤ 1000000) (hq : Q (.agg [.bool neg, magS (numD b)], [])) :
  zc Tryz.prog Tryz.f101 O 0 w0 [] (fun _ _ _ => False) (RetR UM 0 Q) (.code (rfs K101 0).1 :: (rfs K101 0).2) (mk Tryz.f101.ntmps KR (HR neg b [])) := by
 let s : ByteArray := ⟨b.toArray⟩
 have hsl : s.data.toList = b := rfl
 have hss : s.size = b.length := by simp [s, ByteArray.size]
 refine zc.range (tg := 16) (tp := 17) (td := 5) (α := Grp) (by kernel_rfl) (cap := [.ptr 2 0]) (enters_of Tryz.func123 (by kernel_rfl) rfl) (fun x => .str x.1.data.toList) (fun pre => HR neg b (pre.map fun x => decB x.1)) (fun _ => []) (fun _ => False) (fun xs => xs.map (·.1) = chunks s s.size) (fun pre => pre.map (·.1) <+: chunks s s.size) (chunks s s.size).length 3
  (by kernel_rfl) (by decide +kernel) (by decide +kernel) (fun x t c y h => by cases h) ⟨by simp [KR], by simp [HR], by kernel_rfl, Nat.zero_le _⟩ (by kernel_rfl) (Nat.zero_le _) (fun pre => za4 _ _ _) (fun pre c hc => by cases hc) ?_ ?_ ?_ (fun _ _ h => h.elim)
 ·
  intro w σ a hm vb hvb
  simp only [RepL] at hvb
  obtain ⟨v, r, rfl, hv, rfl⟩ := hvb
  simp only [Rep] at hv
  obtain ⟨e, ad, he, had, rfl⟩ := hv
  have hcell : ∀ (W : World) (σ' : List SE) (o : List Nat), HRep (Go.Sx.Own O σ') W σ' (HR neg b o) → ∀ e' ad, σ'[2]? = some e' → e'.ad = some ad → W.cell? ⟨ad.block, ad.off + 0, none⟩ = some (.string s) := by
   intro W σ' o hp e' ad he' had'
   have hb2 : (HR neg b o)[2]? = some (.box [.str b]) := by cases o <;> rfl
   obtain ⟨ad', vs, el, h1, h2, h3, h4⟩ := hp.blk 2 e' _ he' hb2
   rw [had'] at h1; cases h1
   simp only [RepL, Rep] at h4
   obtain ⟨v, r, rfl, rfl, rfl⟩ := h4
   simp [World.cell?, h3, h2, s]
  refine ⟨fun W => W.cell? ⟨ad.block, ad.off + 0, none⟩ = some (.string s), fun x => .string x.1, ?_, ?_, ?_⟩
  ·exact Tryz.Q2 (fun x => x.size ≤ 9 ∧ allD x.data.toList) ⟨ad.block, ad.off + 0, none⟩ s (KI s (hsl ▸ hb) s.size (Nat.le_refl _)) (by omega) w (hcell w σ [] hm.hp e ad he had)
  ·intro pre W σ' hM
   refine ⟨?_, fun x => by simp [Rep]⟩
   have ht := hM.tm 16
   have h16 : (mk Tryz.f101.ntmps KR (HR neg b (pre.map fun x => decB x.1))).tmps.getD 16 .undef = .fn 123 [] [.ptr 2 0] := by kernel_rfl
   have ht0 := hm.tm 16
   have h160 : (mk Tryz.f101.ntmps KR (HR neg b (([] : List Grp).map fun x => decB x.1))).tmps.getD 16 .undef = .fn 123 [] [.ptr 2 0] := by kernel_rfl
   rw [h16] at ht
   rw [h160] at ht0
   simp only [TRep, Rep, RepL] at ht ht0
   obtain ⟨va, vb', h1, _, v, r, h2, ⟨e1, ad1, h3, h4, h5⟩, h6⟩ := ht
   obtain ⟨va', vb2, g1, _, v', r', g2, ⟨e2, ad2, g3, g4, g5⟩, g6⟩ := ht0
   rw [he] at g3; cases g3
   rw [had] at g4; cases g4
   rw [g1] at h1
   simp only [Value.func.injEq] at h1
   have h7 : vb2 = vb' := by
    have := h1.2.2
    simpa using this
   rw [g2, h2, g5, h5] at h7
   simp only [List.cons.injEq, Value.pointer.injEq, Option.some.injEq] at h7
   have h8 := hcell W σ' _ hM.hp e1 ad1 h3 h4
   rw [← h7.1] at h8
   exact h8
  ·intro W l o o' hl ho hoc hK
   exact VC (grownBy_putObj' W l o') (fun r e => by cases e; exact ⟨o, ho, hoc⟩) hK
 ·
  intro l pre x hlen W σ1
  have hpl : (pre.map fun x => decB x.1).length ≤ 1000000 := by
   have := Z2 s s.size
   simp; omega
  have := K6 (O := O) (W := W) (σ1 := σ1) l neg b (pre.map fun x => decB x.1) hpl x False []
  simp only [List.map_append, List.map_cons, List.map_nil]
  exact this
 ·
  intro xs hxs
  have ho : xs.map (fun x => decB x.1) = (chunks s s.size).map decB := by rw [← hxs, List.map_map]; rfl
  have hv : val (xs.map fun x => decB x.1) = numD b := by
   rw [ho, Kf s s.size (Nat.le_refl _), List.take_of_length_le (by rw [Array.length_toList]; exact Nat.le_refl _)]
  have hdg : dig (xs.map fun x => decB x.1) := by
   intro d hd
   obtain ⟨x, _, rfl⟩ := List.mem_map.1 hd
   exact zcq x.2.2 x.2.1
  have hpos : 0 < s.size := by rw [hss]; exact List.length_pos_iff.2 hb0
  have hle : (xs.map fun x => decB x.1).length ≤ 1000000 := by
   rw [ho, List.length_map]
   have := Z2 s s.size
   omega
  have hne : xs.map (fun x => decB x.1) ≠ [] := by
   rw [ho, ve s hpos]; simp
  generalize xs.map (fun x => decB x.1) = l at hv hdg hle hne
  cases l with
  | nil => exact absurd rfl hne
  | cons d o =>
   simp only [List.length_cons] at hle
   refine zc.run hmix QW [2, 3, 5, 6, 16, 17, 19, 20] 400 (T := .ex (fun (u : List Nat) => u.length = o.length + 1 ∧ 0 + (o.length + 1) ≤ o.length + 1 ∧ o.length + 1 < 4611686018427387904 ∧ eqG (o.length + 1) 1 (natG .u32 (d :: o)) (natG .u32 u) ∧ dig (List.take (o.length + 1) (List.drop 0 u))) fun n => .all (fun (x : Nat) => x = val (List.take (o.length + 1) (List.drop 0 n))) fun n => .leaf (.ret [.agg [.bool neg, .osl 4 1 0 (canon n).length]] [.box [.bool neg, .osl 4 1 0 (canon n).length], .box [.bool neg, .osl 4 1 0 (canon n).length], .box [.str b], .arr 1 1 (natG .u32 [d]), .arr (o.length + 1) 1 (natG .u32 (d :: o))])) (by kernel_rfl) ?_
   simp only [Tree.holds, zd]
   have htk : (List.take (o.length + 1) (List.drop 0 (d :: o))) = d :: o := by simp
   refine ⟨d :: o, ⟨rfl, by omega, by omega, za _ _ _, by rw [htk]; exact hdg⟩, ⟨_, rfl⟩, ?_⟩
   intro X hX
   have hX : X = numD b := by rw [htk, hv] at hX; exact hX
   subst hX
   refine RetR.out0 hq (fun h => by cases h) ?_
   simp only [resV, exp2, exp1, List.map_cons, List.map_nil, exp0, ren0, zq, frz1, qw, List.getElem?_cons_zero, List.getElem?_cons_succ, if_true, eqA2, eqA, eqL0, eqA0, magS, natS, true_and, and_true]
   exact jn (u := d :: o) (off := 0) (n := o.length + 1) (by simpa using hdg) (by simpa using hv)
theorem zdl : ze Tryz.prog 101 UM := by
 refine zh (fn := Tryz.f101) (c := Tryz.f101.body.getD .skip) rfl rfl rfl fun p hp O w0 Q hq => ?_
 obtain ⟨neg, b⟩ := p
 obtain ⟨hb, hb0, hbl⟩ := hp
 replace hq := hq _ rfl
 simp only at hb hb0 hbl hq
 obtain ⟨s, hs⟩ : ∃ s, sgn neg b = s := ⟨_, rfl⟩
 simp only [hs]
 refine zc.run hmix QW [2, 3, 5, 6, 16, 17, 19, 20] 400 (T := .side ((0 : Int) ≤ 0 ∧ (0 : Int) < s.length) (.ite (decide ((↑(UInt8.toNat (List.getD s 0 (0 : UInt8))) : Int) = 45)) (.side ((0 : Int) ≤ 1 ∧ (1 : Int) ≤ s.length) (.ex (fun (x : List UInt8) => eqL [AV.str (List.drop 1 (List.take s.length s))] [AV.str x] ∧ eqH [] [] ∧ 0 = 0 ∧ True) fun n => .all (fun (x : Unit) => True) fun n_1 => .leaf (.range (Prod.fst (rfs K101 0)) (Prod.snd (rfs K101 0)) [(2, .ptr 0 0), (3, .ptr 1 0), (5, .undef), (6, .undef), (16, .fn 123 [] [.ptr 2 0]), (17, .undef), (19, .undef), (20, .undef)] [.box [.bool false, .nils], .box [.bool true, .nils], .box [.str n]]))) (.ex (fun (x : List UInt8) => eqL [AV.str s] [AV.str x] ∧ eqH [] [] ∧ 0 = 0 ∧ True) fun n => .all (fun (x : Unit) => True) fun n_1 => .leaf (.range (Prod.fst (rfs K101 0)) (Prod.snd (rfs K101 0)) [(2, .ptr 0 0), (3, .ptr 1 0), (5, .undef), (6, .undef), (16, .fn 123 [] [.ptr 2 0]), (17, .undef), (19, .undef), (20, .undef)] [.box [.bool false, .nils], .box [.bool false, .nils], .box [.str n]])))) (by kernel_rfl) ?_
 subst hs
 have hmain := Yz (O := O) (w0 := w0) neg b hb hb0 hbl hq
 obtain ⟨c, b', rfl⟩ := List.exists_cons_of_ne_nil hb0
 have hc := hb c (by simp)
 simp only [Tree.holds, zd]
 cases neg with
 | true =>
  simp only [sgn, if_true]
  refine ⟨by simp; omega, fun _ => ⟨fun _ => ⟨by simp; omega, fun _ => ?_⟩, fun h => by simp at h⟩⟩
  refine ⟨c :: b', ⟨by simp, by simp, by simp⟩, ⟨(), trivial⟩, fun _ _ => hmain⟩
 | false =>
  simp only [sgn, Bool.false_eq_true, if_false]
  refine ⟨by simp, fun _ => ⟨fun h => ?_, fun _ => ?_⟩⟩
  ·simp at h; omega
  ·refine ⟨c :: b', ⟨by simp, by simp, by simp⟩, ⟨(), trivial⟩, fun _ _ => hmain⟩
end Go.Proofs.Tryz
end

/- The integers' texts: writing. -/
section
set_option maxRecDepth 100000
open Go Go.Sx Go.Proofs Go.Nov
namespace Go.Proofs.Tryz
attribute [local simp] eqKV eqA eqA0 eqH eqB eqL eqL0
noncomputable def K108 : List Go.Sx.Item := [.code (Tryz.f108.body.getD .skip)]
noncomputable def K86 : List Go.Sx.Item := [.code (Tryz.f86.body.getD .skip)]
def jD (l : List Nat) (n i : Nat) : List Nat := (List.range l.length).map fun p => if p < n ∧ (p < i ∨ n - i ≤ p) then l.getD (n - 1 - p) 0 else l.getD p 0
theorem ui (l : List Nat) (n i : Nat) : (jD l n i).length = l.length := by simp [jD]
theorem Je {l : List Nat} {n i p : Nat} (h : p < l.length) : (jD l n i).getD p 0 = if p < n ∧ (p < i ∨ n - i ≤ p) then l.getD (n - 1 - p) 0 else l.getD p 0 := by
 simp [jD, List.getD, h]
theorem Vv (l : List Nat) (n : Nat) : jD l n 0 = l := by
 apply List.ext_getElem (by simp [jD])
 intro p h1 h2
 simp only [jD, List.getElem_map, List.getElem_range]
 rw [if_neg (by omega)]; simp [h2]
theorem VW {l : List Nat} {n i : Nat} (hn : n ≤ l.length) (hi2 : i < n - 1 - i) : ((jD l n i).set i ((jD l n i).getD (n - 1 - i) 0)).set (n - 1 - i) ((jD l n i).getD i 0) = jD l n (i + 1) := by
 rw [Je (by omega), Je (by omega), if_neg (by omega), if_neg (by omega)]
 apply List.ext_getElem (by simp [jD])
 intro p h1 h2
 rw [ui] at h2
 simp only [List.getElem_set, jD, List.getElem_map, List.getElem_range]
 by_cases ha : n - 1 - i = p
 ·rw [if_pos ha, if_pos (by omega)]; congr 1; omega
 ·rw [if_neg ha]
  by_cases hb : i = p
  ·subst hb; rw [if_pos rfl, if_pos (by omega)]
  ·rw [if_neg hb]
   by_cases hc : p < n ∧ (p < i ∨ n - i ≤ p)
   ·rw [if_pos hc, if_pos (by omega)]
   ·rw [if_neg hc, if_neg (by omega)]
theorem YE {l : List Nat} {n i : Nat} (hn : n ≤ l.length) (hi2 : n - 1 - i ≤ i) : jD l n i = (l.take n).reverse ++ l.drop n := by
 apply List.ext_getElem (by simp [jD]; omega)
 intro p h1 h2
 rw [ui] at h1
 simp only [jD, List.getElem_map, List.getElem_range]
 have hl : (l.take n).reverse.length = n := by simp; omega
 by_cases ha : p < n
 ·rw [List.getElem_append_left (by omega), List.getElem_reverse, List.getElem_take]
  have e : (l.take n).length - 1 - p = n - 1 - p := by simp; omega
  simp only [e]
  by_cases hc : p < i ∨ n - i ≤ p
  ·rw [if_pos ⟨ha, hc⟩]; simp [show n - 1 - p < l.length by omega]
  ·rw [if_neg (fun h => hc h.2)]
   have : n - 1 - p = p := by omega
   simp [this, h1]
 ·rw [if_neg (fun h => ha h.1), List.getElem_append_right (by omega)]
  simp only [hl, List.getElem_drop]
  have : n + (p - n) = p := by omega
  simp [this, h1]
def ZB : Ctr := ctrT false false (fun p : List Nat × Nat => [.osl 0 1 0 p.2]) (fun p => [.arr p.1.length 1 (natG .u8 p.1)]) (fun p => p.2 ≤ p.1.length ∧ p.1.length < 2 ^ 62) (fun _ (_ : Unit) => True) (fun p _ => (.tup [], [.arr p.1.length 1 (natG .u8 ((p.1.take p.2).reverse ++ p.1.drop p.2))]))
def SV (n i : Nat) : KV := [(0, .osl 0 1 0 n), (2, .int .i64 (i : Int)), (3, .int .i64 ((n : Int) - 1 - i))]
theorem V3 : ze Tryz.prog 108 ZB := by
 refine jh (fn := Tryz.f108) (c := Tryz.f108.body.getD .skip) rfl rfl rfl (fun h => by cases h) fun p hp O w0 σ0 Q hl0 hq => ?_
 obtain ⟨l, n⟩ := p
 obtain ⟨hn, hl⟩ := hp
 replace hq := hq () trivial
 simp only at hn hl hq
 refine zc.run hmix zr [0, 2, 3] 400 (T := Tree.side (inR IntKind.i64 ((↑n : Int) - (1 : Int))) (Tree.leaf (wj.loop (Prod.fst (lps K108 (0 : Nat))) (Prod.snd (lps K108 (0 : Nat))) [((0 : Nat), AV.osl (0 : Nat) (1 : Nat) (0 : Nat) n), ((2 : Nat), AV.int IntKind.i64 (0 : Int)), ((3 : Nat), AV.int IntKind.i64 ((↑n : Int) - (1 : Int)))] [Blk.arr (List.length l) (1 : Nat) (natG IntKind.u8 l)]))) (by kernel_rfl) ?_
 simp only [Tree.holds, zd, inR, lo, hi]
 refine ⟨by omega, fun _ => ?_⟩
 refine zc.loop (ι := {i : Nat // i ≤ n}) (fun i => SV n i.1) (fun i => [.arr l.length 1 (natG .u8 (jD l n i.1))]) (fun i => n - i.1) ⟨0, Nat.zero_le _⟩ 0 ?_ ?_ (by kernel_rfl)
 ·exact ⟨by simp [SV], by simp [Vv, za], by kernel_rfl, Nat.le_refl _⟩
 ·rintro ⟨i, hin⟩
  obtain ⟨u, hu⟩ : ∃ u, jD l n i = u := ⟨_, rfl⟩
  have hul : u.length = l.length := by rw [← hu, ui]
  simp only [hu, ← hul]
  refine zc.run hmix zr [0, 2, 3] 400 (T := Tree.ite (decide ((↑i : Int) < (↑n : Int) - (1 : Int) - (↑i : Int))) (Tree.side ((0 : Int) ≤ (↑n : Int) - (1 : Int) - (↑i : Int) ∧ (↑n : Int) - (1 : Int) - (↑i : Int) < (↑n : Int)) (Tree.side ((0 : Int) ≤ (↑i : Int) ∧ (↑i : Int) < (↑n : Int)) (Tree.side ((0 : Int) ≤ (↑i : Int) ∧ (↑i : Int) < (↑n : Int)) (Tree.side ((0 : Int) ≤ (↑n : Int) - (1 : Int) - (↑i : Int) ∧ (↑n : Int) - (1 : Int) - (↑i : Int) < (↑n : Int)) (Tree.side (inR IntKind.i64 ((↑i : Int) + (1 : Int))) (Tree.side (inR IntKind.i64 ((↑n : Int) - (1 : Int) - (↑i : Int) - (1 : Int))) (Tree.leaf (wj.back (0 : Nat) [((0 : Nat), AV.osl (0 : Nat) (1 : Nat) (0 : Nat) n), ((2 : Nat), AV.int IntKind.i64 ((↑i : Int) + (1 : Int))), ((3 : Nat), AV.int IntKind.i64 ((↑n : Int) - (1 : Int) - (↑i : Int) - (1 : Int)))] [Blk.arr (List.length u) (1 : Nat) (updG (updG (natG IntKind.u8 u) ((0 : Nat) + Int.toNat (↑i : Int)) (0 : Nat) [AV.int IntKind.u8 (↑(List.getD u ((0 : Nat) + Int.toNat ((↑n : Int) - (1 : Int) - (↑i : Int))) (0 : Nat)) : Int)]) ((0 : Nat) + Int.toNat ((↑n : Int) - (1 : Int) - (↑i : Int))) (0 : Nat) [AV.int IntKind.u8 (↑(List.getD u ((0 : Nat) + Int.toNat (↑i : Int)) (0 : Nat)) : Int)])])))))))) (Tree.leaf (wj.ret [] [Blk.arr (List.length u) (1 : Nat) (natG IntKind.u8 u)]))) (by kernel_rfl) ?_
  simp only [Tree.holds, zd, inR, lo, hi, Int.toNat_natCast]
  refine ⟨fun hlt => ?_, fun hge => ?_⟩
  ·have hlt : i < n - 1 - i := by simp at hlt; omega
   have ej : ((n : Int) - 1 - i).toNat = n - 1 - i := by omega
   rw [ej]
   iterate 6 refine ⟨by omega, fun _ => ?_⟩
   rw [if_pos trivial]
   have hs := VW (l := l) hn hlt
   rw [hu] at hs
   refine ⟨⟨i + 1, by omega⟩, by show n - (i + 1) < n - i; omega, by simp [SV]; omega, ?_, by kernel_rfl, Nat.le_refl _⟩
   rw [← hs]
   refine ⟨⟨rfl, rfl, ?_⟩, trivial⟩
   have h1 := wz (k := .u8) (l := u) (v := (u.getD (n - 1 - i) 0 : Nat)) (i := i) (by omega) (by omega)
   have h2 := wz (k := .u8) (l := u.set i (u.getD (n - 1 - i) 0)) (v := (u.getD i 0 : Nat)) (i := n - 1 - i) (by omega) (by simp; omega)
   simp only [List.length_set, Int.toNat_natCast] at h1 h2
   refine yV ?_ h2
   intro p o hp ho
   have := h1 p o hp ho
   simp only [updG, Nat.zero_add] at this ⊢
   split
   ·rfl
   ·exact this
  ·have hge : n - 1 - i ≤ i := by simp at hge; omega
   have hr := YE (l := l) hn hge
   rw [hu] at hr
   refine ⟨[0], rfl, by simp, by simp, by simp [ZB, ctrT], .tup [], _, qf (by simp [resV, exp2, eqA2, eqL1]), ?_, rfl, hq⟩
   simp [expH, expB, hr, za]
   omega
def vq (neg : Bool) (x : Nat) : Blk := .box [.bool neg, magS x]
def SW (x i n : Nat) : KV := [(1, .ptr 0 0), (4, .osl 1 1 0 n), (6, .undef), (12, magS x), (13, .int .i64 ((canon x).length : Int)), (14, .int .i64 (i : Int)), (18, .undef)]
def SW2 (x i n g k : Nat) : KV := [(1, .ptr 0 0), (4, .osl 1 1 0 n), (6, .int .u32 (g : Int)), (12, magS x), (13, .int .i64 ((canon x).length : Int)), (14, .int .i64 (i : Int)), (18, .int .i64 (k : Int))]
noncomputable def G4 : Nat → Option Ctr := fun f => if f = 108 then some (ZB) else none
theorem KY : ∀ g c, G4 g = some c → ze Tryz.prog g c := okIf V3 (zn)
theorem xH (k : IntKind) (l : List Nat) (n : Nat) (hn : n ≤ l.length) : vI n (zg (natG k l) 0) = (l.take n).map UInt8.ofNat := by
 apply List.ext_getElem (by simp [vI]; omega)
 intro j h1 h2
 have hj : j < n := by simpa [vI] using h1
 simp [vI, zg, natG, Sx.byteOf, show j < l.length by omega]
def wb (x i : Nat) : List Nat := (decs (9 * i) (val ((canon x).take i))).map (48 + ·)
theorem J2 (x i : Nat) : (wb x i).length = 9 * i := by simp [wb, vF]
theorem XE (i : Nat) : B ^ i = 10 ^ (9 * i) := by rw [Nat.pow_mul]
theorem zcr {x i : Nat} (h : i < (canon x).length) : wb x i ++ (decs 9 ((canon x).getD i 0)).map (48 + ·) = wb x (i + 1) := by
 have h1 := zM (q7 (zj x) i)
 rw [List.length_take, Nat.min_eq_left (by omega), XE] at h1
 simp only [wb]
 rw [← List.map_append, ← uN _ _ _ _ h1, zp, XE]
 rfl
theorem Kz (x : Nat) : wb x (canon x).length = (dec x).map (48 + ·) ++ List.replicate (9 * (canon x).length - (dec x).length) 48 := by
 have h : x < 10 ^ (9 * (canon x).length) := by
  have := zM (zj x)
  rwa [zk, XE] at this
 simp only [wb, List.take_length, zk, zc3 h, Ten.padN, List.map_append, List.map_replicate, dec]
def Vu : Ctr := ctrP true (fun p : Bool × Nat => [.agg [.bool p.1, magS p.2]]) (fun p => (canon p.2).length < 1000000) (fun p r => r = wr p.1 p.2) (fun _ r => (.tup [.str r.1, .int .i64 r.2], []))
theorem XT {O : Nat → Prop} {w0 : World} {Q : AV × Heap → Prop} {Hs : Nat → KV → Heap → Prop} (neg : Bool) (x : Nat) (hx : (canon x).length < 1000000) (hx0 : x ≠ 0) (hq : Q (.tup [.str (wr neg x).1, .int .i64 (wr neg x).2], [])) (b : List Nat) (hb : b = wb x (canon x).length) :
  zc Tryz.prog Tryz.f86 O 0 w0 [] Hs (RetR Vu 0 Q) (.code (.loop (lps (inside K86 0) 1).1) :: (lps (inside K86 0) 1).2) (mk Tryz.f86.ntmps (SW x (canon x).length b.length) [vq neg x, .arr b.length 1 (natG .u8 b)]) := by
 have hdl := zcz hx0
 have hle : (dec x).length ≤ 9 * (canon x).length := by
  have := zM (zj x)
  rw [zk, XE] at this
  exact Zo this
 have hbl : b.length = 9 * (canon x).length := by rw [hb, J2]
 have hget : ∀ p, p < b.length → b.getD p 0 = 48 + (dec x).getD p 0 := by
  intro p hp
  rw [hb, Kz]
  by_cases h : p < (dec x).length
  ·rw [xN (by simpa using h), Y3 (z := 0) h]
  ·rw [vK (by simpa using Nat.le_of_not_lt h), ZY (by simp; omega), we (Nat.le_of_not_lt h)]
 have htake : b.take (dec x).length = (dec x).map (48 + ·) := by
  rw [hb, Kz, List.take_append_of_le_length (by simp), List.take_of_length_le (by simp)]
 refine zc.loop (ι := {n : Nat // (dec x).length ≤ n ∧ n ≤ b.length}) (fun n => SW x (canon x).length n.1) (fun _ => [vq neg x, .arr b.length 1 (natG .u8 b)]) (fun n => n.1) ⟨b.length, by omega, Nat.le_refl _⟩ 0 ?_ ?_ (by kernel_rfl)
 ·exact ⟨by simp [SW, magS, natS, za], by simp [vq, magS, natS, za], by kernel_rfl, Nat.zero_le _⟩
 ·rintro ⟨n, hn1, hn2⟩
  obtain ⟨L, hL⟩ : ∃ L, (canon x).length = L := ⟨_, rfl⟩
  simp only [hL]
  refine zc.run hmix KY [1, 4, 6, 12, 13, 14, 18] 400 (T := Tree.side (inR IntKind.i64 ((↑n : Int) - (1 : Int))) (Tree.side ((0 : Int) ≤ (↑n : Int) - (1 : Int) ∧ (↑n : Int) - (1 : Int) < (↑n : Int)) (Tree.ite (decide ((↑(List.getD b ((0 : Nat) + Int.toNat ((↑n : Int) - (1 : Int))) (0 : Nat)) : Int) = (48 : Int))) (Tree.side (inR IntKind.i64 ((↑n : Int) - (1 : Int))) (Tree.side ((0 : Int) ≤ (↑n : Int) - (1 : Int) ∧ (↑n : Int) - (1 : Int) ≤ (↑n : Int)) (Tree.leaf (wj.back (0 : Nat) [((1 : Nat), AV.ptr (0 : Nat) (0 : Nat)), ((4 : Nat), AV.osl (1 : Nat) (1 : Nat) (0 : Nat) (Int.toNat ((↑n : Int) - (1 : Int)) - (0 : Nat))), ((6 : Nat), AV.undef), ((12 : Nat), AV.sl (List.length (canon x)) (1 : Nat) (natG IntKind.u32 (canon x))), ((13 : Nat), AV.int IntKind.i64 (↑(List.length (canon x)) : Int)), ((14 : Nat), AV.int IntKind.i64 (↑L : Int)), ((18 : Nat), AV.undef)] [Blk.box [AV.bool neg, AV.sl (List.length (canon x)) (1 : Nat) (natG IntKind.u32 (canon x))], Blk.arr (List.length b) (1 : Nat) (natG IntKind.u8 b)])))) (Tree.ite (decide ((1000 : Int) < (↑n : Int))) (Tree.leaf (wj.ret [AV.str (Array.toList #[]), AV.int IntKind.i64 (14 : Int)] [Blk.box [AV.bool neg, AV.sl (List.length (canon x)) (1 : Nat) (natG IntKind.u32 (canon x))], Blk.arr (List.length b) (1 : Nat) (natG IntKind.u8 b)])) (Tree.ite neg (Tree.side ((0 : Nat) = (0 : Nat) ∧ n ≤ List.length b ∧ (n + (1 : Nat)) * (1 : Nat) ≤ (140737488355328 : Nat)) (Tree.ex (fun (x : List Nat × Nat) => eqL [AV.osl (0 : Nat) (1 : Nat) (0 : Nat) (n + (1 : Nat))] [AV.osl (0 : Nat) (1 : Nat) (0 : Nat) (Prod.snd x)] ∧ eqH [Blk.arr (n + (1 : Nat)) (1 : Nat) (appG n (natG IntKind.u8 b) (zg (zf (1 : Nat) [AV.int IntKind.u8 (45 : Int)]) (0 : Nat)))] [Blk.arr (List.length (Prod.fst x)) (1 : Nat) (natG IntKind.u8 (Prod.fst x))] ∧ (1 : Nat) = (1 : Nat) ∧ Prod.snd x ≤ List.length (Prod.fst x) ∧ List.length (Prod.fst x) < (4611686018427387904 : Nat)) fun (n_1 : List Nat × Nat) => Tree.all (fun (x : Unit) => True) fun (n_2 : Unit) => Tree.side (∀ (j : Nat), j < n + (1 : Nat) → ∃ (b : UInt8), AV.int IntKind.u8 (↑(List.getD (List.reverse (List.take (Prod.snd n_1) (Prod.fst n_1)) ++ List.drop (Prod.snd n_1) (Prod.fst n_1)) ((0 : Nat) + j) (0 : Nat)) : Int) = AV.int IntKind.u8 (↑(UInt8.toNat b) : Int)) (Tree.leaf (wj.ret [AV.str (vI (n + (1 : Nat)) (zg (natG IntKind.u8 (List.reverse (List.take (Prod.snd n_1) (Prod.fst n_1)) ++ List.drop (Prod.snd n_1) (Prod.fst n_1))) (0 : Nat))), AV.int IntKind.i64 (0 : Int)] [Blk.box [AV.bool neg, AV.sl (List.length (canon x)) (1 : Nat) (natG IntKind.u32 (canon x))], Blk.arr (List.length (Prod.fst n_1)) (1 : Nat) (natG IntKind.u8 (List.reverse (List.take (Prod.snd n_1) (Prod.fst n_1)) ++ List.drop (Prod.snd n_1) (Prod.fst n_1))), Blk.arr (1 : Nat) (1 : Nat) (zf (1 : Nat) [AV.int IntKind.u8 (45 : Int)])])))) (Tree.ex (fun (x : List Nat × Nat) => eqL [AV.osl (0 : Nat) (1 : Nat) (0 : Nat) n] [AV.osl (0 : Nat) (1 : Nat) (0 : Nat) (Prod.snd x)] ∧ eqH [Blk.arr (List.length b) (1 : Nat) (natG IntKind.u8 b)] [Blk.arr (List.length (Prod.fst x)) (1 : Nat) (natG IntKind.u8 (Prod.fst x))] ∧ (1 : Nat) = (1 : Nat) ∧ Prod.snd x ≤ List.length (Prod.fst x) ∧ List.length (Prod.fst x) < (4611686018427387904 : Nat)) fun (n_1 : List Nat × Nat) => Tree.all (fun (x : Unit) => True) fun (n_2 : Unit) => Tree.side (∀ (j : Nat), j < n → ∃ (b : UInt8), AV.int IntKind.u8 (↑(List.getD (List.reverse (List.take (Prod.snd n_1) (Prod.fst n_1)) ++ List.drop (Prod.snd n_1) (Prod.fst n_1)) ((0 : Nat) + j) (0 : Nat)) : Int) = AV.int IntKind.u8 (↑(UInt8.toNat b) : Int)) (Tree.leaf (wj.ret [AV.str (vI n (zg (natG IntKind.u8 (List.reverse (List.take (Prod.snd n_1) (Prod.fst n_1)) ++ List.drop (Prod.snd n_1) (Prod.fst n_1))) (0 : Nat))), AV.int IntKind.i64 (0 : Int)] [Blk.box [AV.bool neg, AV.sl (List.length (canon x)) (1 : Nat) (natG IntKind.u32 (canon x))], Blk.arr (List.length (Prod.fst n_1)) (1 : Nat) (natG IntKind.u8 (List.reverse (List.take (Prod.snd n_1) (Prod.fst n_1)) ++ List.drop (Prod.snd n_1) (Prod.fst n_1)))])))))))) (by kernel_rfl) ?_
  have e1 : ((n : Int) - 1).toNat = n - 1 := by omega
  have e2 : 0 + (n - 1) = n - 1 := by omega
  have e3 : n - 1 - 0 = n - 1 := by omega
  simp only [Tree.holds, zd, inR, lo, hi, e1, e2, e3]
  have hg := hget (n - 1) (by omega)
  rw [hg]
  iterate 2 refine ⟨by omega, fun _ => ?_⟩
  refine ⟨fun hz => ?_, fun hnz => ⟨fun hbig => ?_, fun hsm => ?_⟩⟩
  ·have hz : (dec x).getD (n - 1) 0 = 0 := by simp at hz ⊢; omega
   have hne : n ≠ (dec x).length := by
    rintro rfl
    exact zdb hdl hz
   iterate 2 refine ⟨by omega, fun _ => ?_⟩
   rw [if_pos trivial]
   exact ⟨⟨n - 1, by omega, by omega⟩, by show n - 1 < n; omega, by simp [SW, magS, natS, za], by simp [vq, magS, natS, za], by kernel_rfl, Nat.zero_le _⟩
  ·have hn : n = (dec x).length := by
    rcases Nat.lt_or_ge (dec x).length n with h | h
    ·have : (dec x).getD (n - 1) 0 = 0 := by simp [List.getD, List.getElem?_eq_none (show (dec x).length ≤ n - 1 by omega)]
     rw [this] at hnz; simp at hnz
    ·omega
   subst hn
   have hbig : 1000 < (dec x).length := by simp at hbig; omega
   simp only [wr, if_neg hx0, if_pos hbig] at hq
   exact RetR.scal hq rfl rfl
  ·have hn : n = (dec x).length := by
    rcases Nat.lt_or_ge (dec x).length n with h | h
    ·have : (dec x).getD (n - 1) 0 = 0 := by simp [List.getD, List.getElem?_eq_none (show (dec x).length ≤ n - 1 by omega)]
     rw [this] at hnz; simp at hnz
    ·omega
   subst hn
   have hsm : ¬ 1000 < (dec x).length := by simp at hsm; omega
   simp only [wr, if_neg hx0, if_neg hsm] at hq
   have hbyte : ∀ (l : List Nat) (k : Nat), (∀ d ∈ l, d < 256) → ∀ j, j < k → ∃ c : UInt8, AV.int .u8 ((l.getD (0 + j) 0 : Nat) : Int) = .int .u8 (c.toNat : Int) := by
    intro l k hl j hj
    rw [Nat.zero_add]
    have : l.getD j 0 < 256 := by
     by_cases h : j < l.length
     ·have := hl l[j] (List.getElem_mem h)
      simpa [List.getD, h] using this
     ·simp [List.getD, List.getElem?_eq_none (Nat.le_of_not_lt h)]
    refine ⟨UInt8.ofNat (l.getD j 0), ?_⟩
    simp only [AV.int.injEq, true_and]
    rw [UInt8.toNat_ofNat', Nat.mod_eq_of_lt this]
   have hb256 : ∀ d ∈ b, d < 256 := by
    intro d hd
    rw [hb, Kz] at hd
    rcases List.mem_append.1 hd with hd | hd
    ·obtain ⟨y, hy, rfl⟩ := List.mem_map.1 hd
     have := Ten.zj x y hy
     simp only [Ten.B] at this
     omega
    ·have := (List.mem_replicate.1 hd).2; omega
   have htx : ((b.take (dec x).length).reverse).map UInt8.ofNat = txt x := by
    rw [htake, txt, if_neg hx0, List.map_reverse, List.map_map]; rfl
   refine ⟨fun hneg => ?_, fun hneg => ?_⟩
   ·subst hneg
    refine ⟨⟨trivial, hn2, by omega⟩, fun _ => ?_⟩
    have hal : (b.take (dec x).length ++ [45]).length = (dec x).length + 1 := by simp; omega
    refine ⟨(b.take (dec x).length ++ [45], (dec x).length + 1), ⟨by simp, ?_, by simp, by simp only [hal]; omega, by simp only [hal]; omega⟩, ⟨(), trivial⟩, fun _ _ => ⟨?_, fun _ => ?_⟩⟩
    ·simp only [eqH, eqB, hal]
     refine ⟨⟨trivial, trivial, ?_⟩, trivial⟩
     intro j o hj ho
     have : o = 0 := by omega
     subst this
     simp only [appG, zg, zf, natG]
     have hl : (b.take (dec x).length).length = (dec x).length := by simp; omega
     by_cases h : j < (dec x).length
     ·rw [if_pos h, xN (by omega), Za h]
     ·have : j = (dec x).length := by omega
      subst this
      rw [if_neg (by omega), vK (by omega), hl, Nat.sub_self]
      rfl
    ·refine hbyte _ _ ?_
     intro d hd
     simp only [List.mem_append, List.mem_reverse] at hd
     rcases hd with hd | hd
     ·have := List.mem_of_mem_take hd
      rcases List.mem_append.1 this with h | h
      ·exact hb256 d (List.mem_of_mem_take h)
      ·simp at h; omega
     ·have := List.mem_of_mem_drop hd
      rcases List.mem_append.1 this with h | h
      ·exact hb256 d (List.mem_of_mem_take h)
      ·simp at h; omega
    ·refine RetR.scal hq rfl ?_
     simp only [resV]
     rw [xH _ _ _ (by simp; omega)]
     have ht : List.take ((dec x).length + 1) (b.take (dec x).length ++ [45]) = b.take (dec x).length ++ [45] := List.take_of_length_le (by omega)
     rw [ht, List.take_append_of_le_length (by simp; omega), List.take_of_length_le (by simp; omega), List.reverse_append, List.map_append, htx]
     simp [sgn]
   ·subst hneg
    refine ⟨(b, (dec x).length), ⟨by simp, by simp [za], by simp, hn2, by simp only [hbl]; omega⟩, ⟨(), trivial⟩, fun _ _ => ⟨?_, fun _ => ?_⟩⟩
    ·refine hbyte _ _ ?_
     intro d hd
     simp only [List.mem_append, List.mem_reverse] at hd
     rcases hd with hd | hd
     ·exact hb256 d (List.mem_of_mem_take hd)
     ·exact hb256 d (List.mem_of_mem_drop hd)
    ·refine RetR.scal hq rfl ?_
     simp only [resV]
     have hrl : ((b.take (dec x).length).reverse).length = (dec x).length := by simp; omega
     rw [xH _ _ _ (by rw [List.length_append, hrl]; omega), List.take_append_of_le_length (by omega), List.take_of_length_le (by omega), htx]
     simp [sgn]
theorem zak : ze Tryz.prog 86 Vu := by
 refine zh (fn := Tryz.f86) (c := Tryz.f86.body.getD .skip) rfl rfl rfl fun p hp O w0 Q hq => ?_
 obtain ⟨neg, x⟩ := p
 replace hq := hq _ rfl
 simp only at hp hq
 refine zc.run hmix KY [1, 4, 6, 12, 13, 14, 18] 400 (T := Tree.ite (decide ((↑(List.length (canon x)) : Int) = (0 : Int))) (Tree.leaf (wj.ret [AV.str (Array.toList #[(48 : UInt8)]), AV.int IntKind.i64 (0 : Int)] [Blk.box [AV.bool neg, AV.sl (List.length (canon x)) (1 : Nat) (natG IntKind.u32 (canon x))]])) (Tree.leaf (wj.loop (Prod.fst (lps K86 (0 : Nat))) (Prod.snd (lps K86 (0 : Nat))) [((1 : Nat), AV.ptr (0 : Nat) (0 : Nat)), ((4 : Nat), AV.nils), ((6 : Nat), AV.undef), ((12 : Nat), AV.sl (List.length (canon x)) (1 : Nat) (natG IntKind.u32 (canon x))), ((13 : Nat), AV.int IntKind.i64 (↑(List.length (canon x)) : Int)), ((14 : Nat), AV.int IntKind.i64 (0 : Int)), ((18 : Nat), AV.undef)] [Blk.box [AV.bool neg, AV.sl (List.length (canon x)) (1 : Nat) (natG IntKind.u32 (canon x))]]))) (by kernel_rfl) ?_
 simp only [Tree.holds, zd, inR, lo, hi]
 refine ⟨fun h0 => ?_, fun h0 => ?_⟩
 ·have h0 : x = 0 := by
   rcases Nat.eq_zero_or_pos x with h | h
   ·exact h
   ·have := jk (x := x) (n := 0) (by simp; omega)
    simp at h0; rw [h0] at this; simp at this
  subst h0
  refine RetR.scal hq rfl ?_
  simp [resV, wr]
 ·have hx0 : x ≠ 0 := by
   rintro rfl
   simp [zO] at h0
  refine zc.bear 4 1 (natG .u8 []) (by kernel_rfl) (by decide +kernel) (by kernel_rfl) ?_
  refine zc.loop (ι := {i : Nat // i ≤ (canon x).length}) (fun i => SW x i.1 (wb x i.1).length) (fun i => [vq neg x, .arr (wb x i.1).length 1 (natG .u8 (wb x i.1))]) (fun i => (canon x).length - i.1) ⟨0, Nat.zero_le _⟩ 0 ?_ ?_ (by kernel_rfl)
  ·exact ⟨by simp [kH, SW, magS, natS, za, J2], by simp [vq, magS, natS, za, J2, eqG], by kernel_rfl, Nat.zero_le _⟩
  ·rintro ⟨i, hil⟩
   obtain ⟨b, hb⟩ : ∃ b, wb x i = b := ⟨_, rfl⟩
   simp only [hb]
   refine zc.run hmix KY [1, 4, 6, 12, 13, 14, 18] 400 (T := Tree.ite (decide ((↑i : Int) < (↑(List.length (canon x)) : Int))) (Tree.side ((0 : Int) ≤ (↑i : Int) ∧ (↑i : Int) < (↑(List.length (canon x)) : Int)) (Tree.leaf (wj.loop (Prod.fst (lps (inside K86 (0 : Nat)) (0 : Nat))) (Prod.snd (lps (inside K86 (0 : Nat)) (0 : Nat))) [((1 : Nat), AV.ptr (0 : Nat) (0 : Nat)), ((4 : Nat), AV.osl (1 : Nat) (1 : Nat) (0 : Nat) (List.length b)), ((6 : Nat), AV.int IntKind.u32 (↑(List.getD (canon x) (Int.toNat (↑i : Int)) (0 : Nat)) : Int)), ((12 : Nat), AV.sl (List.length (canon x)) (1 : Nat) (natG IntKind.u32 (canon x))), ((13 : Nat), AV.int IntKind.i64 (↑(List.length (canon x)) : Int)), ((14 : Nat), AV.int IntKind.i64 (↑i : Int)), ((18 : Nat), AV.int IntKind.i64 (0 : Int))] [Blk.box [AV.bool neg, AV.sl (List.length (canon x)) (1 : Nat) (natG IntKind.u32 (canon x))], Blk.arr (List.length b) (1 : Nat) (natG IntKind.u8 b)]))) (Tree.leaf (wj.loop (Prod.fst (lps (inside K86 (0 : Nat)) (1 : Nat))) (Prod.snd (lps (inside K86 (0 : Nat)) (1 : Nat))) [((1 : Nat), AV.ptr (0 : Nat) (0 : Nat)), ((4 : Nat), AV.osl (1 : Nat) (1 : Nat) (0 : Nat) (List.length b)), ((6 : Nat), AV.undef), ((12 : Nat), AV.sl (List.length (canon x)) (1 : Nat) (natG IntKind.u32 (canon x))), ((13 : Nat), AV.int IntKind.i64 (↑(List.length (canon x)) : Int)), ((14 : Nat), AV.int IntKind.i64 (↑i : Int)), ((18 : Nat), AV.undef)] [Blk.box [AV.bool neg, AV.sl (List.length (canon x)) (1 : Nat) (natG IntKind.u32 (canon x))], Blk.arr (List.length b) (1 : Nat) (natG IntKind.u8 b)]))) (by kernel_rfl) ?_
   simp only [Tree.holds, zd, inR, lo, hi, Int.toNat_natCast]
   refine ⟨fun hlt => ⟨by simp at hlt; omega, fun _ => ?_⟩, fun hge => ?_⟩
   ·have hlt : i < (canon x).length := by simp at hlt; omega
    obtain ⟨g, hg⟩ : ∃ g, (canon x).getD i 0 = g := ⟨_, rfl⟩
    have hgB : g < 1000000000 := hg ▸ zE (zj x) i
    have hstep := zcr hlt
    have hbl : b.length = 9 * i := by rw [← hb, J2]
    rw [hb, hg] at hstep
    rw [hg]
    refine zc.loop (ι := {k : Nat // k ≤ 9}) (fun k => SW2 x i (b ++ (decs k.1 g).map (48 + ·)).length (g / 10 ^ k.1) k.1) (fun k => [vq neg x, .arr (b ++ (decs k.1 g).map (48 + ·)).length 1 (natG .u8 (b ++ (decs k.1 g).map (48 + ·)))]) (fun k => 9 - k.1) ⟨0, Nat.zero_le _⟩ 1 ?_ ?_ (by kernel_rfl)
    ·exact ⟨by simp [SW2, magS, natS, za, decs], by simp [vq, magS, natS, za, decs], by kernel_rfl, Nat.zero_le _⟩
    ·rintro ⟨k, hk⟩
     obtain ⟨c, hc⟩ : ∃ c, b ++ (decs k g).map (48 + ·) = c := ⟨_, rfl⟩
     obtain ⟨q, hqv⟩ : ∃ q, g / 10 ^ k = q := ⟨_, rfl⟩
     have hqB : q < 1000000000 := by rw [← hqv]; exact Nat.lt_of_le_of_lt (Nat.div_le_self _ _) hgB
     have hcl : c.length = 9 * i + k := by rw [← hc]; simp [vF, hbl]
     have hnext : b ++ (decs (k + 1) g).map (48 + ·) = c ++ [48 + q % 10] := by
      rw [QP, List.map_append, ← List.append_assoc, hc, hqv]; rfl
     have hqn : g / 10 ^ (k + 1) = q / 10 := by rw [Nat.pow_succ, ← Nat.div_div_eq_div_mul, hqv]
     simp only [hc, hqv]
     refine zc.run hmix KY [1, 4, 6, 12, 13, 14, 18] 400 (T := Tree.ite (decide ((↑k : Int) < (9 : Int))) (Tree.side ((10 : Int) ≠ (0 : Int)) (Tree.side (inR IntKind.u32 ((48 : Int) + Int.tmod (↑q : Int) (10 : Int))) (Tree.side (inR IntKind.u8 ((48 : Int) + Int.tmod (↑q : Int) (10 : Int))) (Tree.side ((0 : Nat) = (0 : Nat) ∧ List.length c ≤ List.length c ∧ (List.length c + (1 : Nat)) * (1 : Nat) ≤ (140737488355328 : Nat)) (Tree.side ((10 : Int) ≠ (0 : Int) ∧ inR IntKind.u32 (Int.tdiv (↑q : Int) (10 : Int))) (Tree.side (inR IntKind.i64 ((↑k : Int) + (1 : Int))) (Tree.leaf (wj.back (1 : Nat) [((1 : Nat), AV.ptr (0 : Nat) (0 : Nat)), ((4 : Nat), AV.osl (1 : Nat) (1 : Nat) (0 : Nat) (List.length c + (1 : Nat))), ((6 : Nat), AV.int IntKind.u32 (Int.tdiv (↑q : Int) (10 : Int))), ((12 : Nat), AV.sl (List.length (canon x)) (1 : Nat) (natG IntKind.u32 (canon x))), ((13 : Nat), AV.int IntKind.i64 (↑(List.length (canon x)) : Int)), ((14 : Nat), AV.int IntKind.i64 (↑i : Int)), ((18 : Nat), AV.int IntKind.i64 ((↑k : Int) + (1 : Int)))] [Blk.box [AV.bool neg, AV.sl (List.length (canon x)) (1 : Nat) (natG IntKind.u32 (canon x))], Blk.arr (List.length c + (1 : Nat)) (1 : Nat) (appG (List.length c) (natG IntKind.u8 c) (zg (zf (1 : Nat) [AV.int IntKind.u8 ((48 : Int) + Int.tmod (↑q : Int) (10 : Int))]) (0 : Nat))), Blk.arr (1 : Nat) (1 : Nat) (zf (1 : Nat) [AV.int IntKind.u8 ((48 : Int) + Int.tmod (↑q : Int) (10 : Int))])])))))))) (Tree.side (inR IntKind.i64 ((↑i : Int) + (1 : Int))) (Tree.leaf (wj.back (0 : Nat) [((1 : Nat), AV.ptr (0 : Nat) (0 : Nat)), ((4 : Nat), AV.osl (1 : Nat) (1 : Nat) (0 : Nat) (List.length c)), ((6 : Nat), AV.int IntKind.u32 (↑q : Int)), ((12 : Nat), AV.sl (List.length (canon x)) (1 : Nat) (natG IntKind.u32 (canon x))), ((13 : Nat), AV.int IntKind.i64 (↑(List.length (canon x)) : Int)), ((14 : Nat), AV.int IntKind.i64 ((↑i : Int) + (1 : Int))), ((18 : Nat), AV.int IntKind.i64 (↑k : Int))] [Blk.box [AV.bool neg, AV.sl (List.length (canon x)) (1 : Nat) (natG IntKind.u32 (canon x))], Blk.arr (List.length c) (1 : Nat) (natG IntKind.u8 c)])))) (by kernel_rfl) ?_
     have e10 : (10 : Int) = ((10 : Nat) : Int) := rfl
     have em : Int.tmod (q : Int) 10 = ((q % 10 : Nat) : Int) := by rw [e10, KO]
     have ed : Int.tdiv (q : Int) 10 = ((q / 10 : Nat) : Int) := by rw [e10, Xx]
     simp only [Tree.holds, zd, inR, lo, hi, em, ed]
     refine ⟨fun hlt2 => ?_, fun hge2 => ?_⟩
     ·have hlt2 : k < 9 := by simp at hlt2; omega
      refine ⟨by decide, fun _ => ⟨by omega, fun _ => ⟨by omega, fun _ => ⟨⟨trivial, Nat.le_refl _, by omega⟩, fun _ => ⟨⟨by decide, by omega, by omega⟩, fun _ => ⟨by omega, fun _ => ?_⟩⟩⟩⟩⟩⟩
      rw [if_pos trivial]
      refine ⟨⟨k + 1, by omega⟩, by show 9 - (k + 1) < 9 - k; omega, ?_, ?_, by kernel_rfl, Nat.zero_le _⟩
      ·simp [SW2, hnext, hqn, magS, natS, za]
      ·simp only [hnext]
       refine ⟨by simp [vq, magS, natS, za], ⟨by simp, rfl, ?_⟩, trivial⟩
       have := Z5 (k := .u8) (l := c) (v := 48 + ((q % 10 : Nat) : Int)) (by omega)
       rw [show (48 + ((q % 10 : Nat) : Int)).toNat = 48 + q % 10 by omega] at this
       exact this
     ·have hge2 : k = 9 := by simp at hge2; omega
      subst hge2
      refine ⟨by omega, fun _ => ?_⟩
      rw [if_neg (by decide), if_pos trivial]
      have hcw : c = wb x (i + 1) := by rw [← hc, hstep]
      exact ⟨⟨i + 1, hlt⟩, by show _ - (i + 1) < _ - i; omega, by simp [SW, hcw, magS, natS, za], by simp [hcw, vq, magS, natS, za], by kernel_rfl, Nat.zero_le _⟩
   ·have hge : i = (canon x).length := by simp at hge; omega
    subst hge
    exact XT neg x hp hx0 hq b hb.symm
end Go.Proofs.Tryz
end

/- The integers' texts: Check, pair, Gcd. -/
section
set_option maxRecDepth 100000
open Go Go.Sx Go.Proofs Go.Nov
namespace Go.Proofs.Tryz
attribute [local simp] eqKV eqA eqA0 eqH eqB eqL eqL0
noncomputable def K64 : List Go.Sx.Item := [.code (Tryz.f64.body.getD .skip)]
noncomputable def K65 : List Go.Sx.Item := [.code (Tryz.f65.body.getD .skip)]
theorem kD (c : UInt8) : (if decide ((c.toNat : Int) < 48) = true then true else decide (57 < (c.toNat : Int))) = !isD c := by
 simp only [isD]
 by_cases h : c.toNat < 48
 ·rw [if_pos (by simp; omega)]; simp; omega
 ·rw [if_neg (by simp; omega)]
  by_cases h2 : c.toNat ≤ 57
  ·have : decide (57 < (c.toNat : Int)) = false := by simp; omega
   rw [this]; simp; omega
  ·have : decide (57 < (c.toNat : Int)) = true := by simp; omega
   rw [this]; simp; omega
def Ql : Ctr := ctrP true (fun s : List UInt8 => [.str s]) (fun s => s.length < 2 ^ 62) (fun s r => r = errI s) (fun _ r => (.int .i64 r, []))
def SCk (b : List UInt8) (i : Nat) : KV := [(3, .str b), (31, .int .i64 (b.length : Int)), (32, .int .i64 (i : Int)), (40, .undef), (41, .undef), (42, .undef), (43, .undef)]
theorem Qs {O : Nat → Prop} {w0 : World} {Q : AV × Heap → Prop} {neg : Bool} (b : List UInt8) (hb : b.length < 2 ^ 62) (hf : b.all isD = true → qh neg b = true)
  (hq : Q (.int .i64 (if qh neg b then (if 1000 < b.length then 14 else 0) else 12), [])) :
  zc Tryz.prog Tryz.f64 O 0 w0 [] (fun _ _ _ => False) (RetR Ql 0 Q) (.code (.loop (lps K64 0).1) :: (lps K64 0).2) (mk Tryz.f64.ntmps (SCk b 0) []) := by
 refine zc.loop (ι := {i : Nat // i ≤ b.length ∧ ∀ j, j < i → isD (b.getD j 0) = true}) (fun i => SCk b i.1) (fun _ => []) (fun i => b.length - i.1) ⟨0, Nat.zero_le _, fun j hj => by omega⟩ 0 ?_ ?_ (by kernel_rfl)
 ·exact ⟨by simp [SCk], by simp, by kernel_rfl, Nat.zero_le _⟩
 ·rintro ⟨i, hil, hid⟩
  refine zc.run hmix zr [3, 31, 32, 40, 41, 42, 43] 400 (T := .ite (decide ((↑i : Int) < b.length)) (.side ((0 : Int) ≤ i ∧ (↑i : Int) < b.length) (.side (decide ((↑(UInt8.toNat (List.getD b (Int.toNat (↑i : Int)) (0 : UInt8))) : Int) < 48) = false → (0 : Int) ≤ i ∧ (↑i : Int) < b.length) (.ite (bif decide ((↑(UInt8.toNat (List.getD b (Int.toNat (↑i : Int)) (0 : UInt8))) : Int) < 48) then true else decide ((57 : Int) < (↑(UInt8.toNat (List.getD b (Int.toNat (↑i : Int)) (0 : UInt8))) : Int))) (.leaf (.ret [.int .i64 12] [])) (.side (inR .i64 ((↑i : Int) + (1 : Int))) (.leaf (.back 0 [(3, .str b), (31, .int .i64 b.length), (32, .int .i64 ((↑i : Int) + (1 : Int))), (40, .undef), (41, .undef), (42, .undef), (43, .undef)] [])))))) (.ite (decide ((1000 : Int) < b.length)) (.leaf (.ret [.int .i64 14] [])) (.leaf (.ret [.int .i64 0] [])))) (by kernel_rfl) ?_
  simp only [Tree.holds, zd, inR, lo, hi, Int.toNat_natCast, Bool.cond_eq_ite]
  refine ⟨fun hlt => ?_, fun hge => ⟨fun hbig => ?_, fun hsm => ?_⟩⟩
  ·have hlt : i < b.length := by simp at hlt; omega
   refine ⟨by omega, fun _ => ⟨fun _ => by omega, fun _ => ⟨fun hbad => ?_, fun hgood => ⟨by omega, fun _ => ?_⟩⟩⟩⟩
   ·have hnd : isD (b.getD i 0) = false := by
     rw [kD] at hbad
     simpa using hbad
    have hnf : qh neg b = false := by
     have : b.all isD = false := by
      rw [List.all_eq_false]
      refine ⟨b.getD i 0, by simp [List.getD, hlt], by simpa using hnd⟩
     simp [qh, this]
    rw [hnf] at hq
    exact RetR.scal hq rfl (by simp [resV])
   ·have hd : isD (b.getD i 0) = true := by
     rw [kD] at hgood
     simpa using hgood
    rw [if_pos trivial]
    refine ⟨⟨i + 1, hlt, fun j hj => ?_⟩, by show b.length - (i + 1) < b.length - i; omega, by simp [SCk], by simp, by kernel_rfl, Nat.zero_le _⟩
    rcases Nat.lt_or_ge j i with h | h
    ·exact hid j h
    ·have : j = i := by omega
     subst this; exact hd
  all_goals
   have hge : i = b.length := by simp at hge; omega
   have hall : b.all isD = true := by
    rw [List.all_eq_true]
    intro c hc
    obtain ⟨j, hj, rfl⟩ := List.getElem_of_mem hc
    have := hid j (by omega)
    simpa [List.getD, hj] using this
   rw [hf hall] at hq
  ·rw [if_pos rfl, if_pos (by simp at hbig; omega)] at hq
   exact RetR.scal hq rfl (by simp [resV])
  ·rw [if_pos rfl, if_neg (by simp at hsm; omega)] at hq
   exact RetR.scal hq rfl (by simp [resV])
theorem ZR : ze Tryz.prog 64 Ql := by
 refine zh (fn := Tryz.f64) (c := Tryz.f64.body.getD .skip) rfl rfl rfl fun s hs O w0 Q hq => ?_
 replace hq := hq _ rfl
 refine zc.run hmix zr [3, 31, 32, 40, 41, 42, 43] 400 (T := .side (decide ((0 : Int) < s.length) = true → (0 : Int) ≤ 0 ∧ (0 : Int) < s.length) (.ite (bif decide ((0 : Int) < s.length) then decide ((↑(UInt8.toNat (List.getD s 0 (0 : UInt8))) : Int) = 45) else false) (.side ((0 : Int) ≤ 1 ∧ (1 : Int) ≤ s.length) (.ite (decide (List.drop 1 (List.take s.length s) = Array.toList #[(48 : UInt8)])) (.leaf (.ret [.int .i64 12] [])) (.side (decide (List.drop 1 (List.take s.length s) = Array.toList #[]) = false → (0 : Int) ≤ 0 ∧ (0 : Int) < (↑(List.length (List.drop 1 (List.take s.length s))) : Int)) (.ite (bif decide (List.drop 1 (List.take s.length s) = Array.toList #[]) then true else bif decide ((↑(UInt8.toNat (List.getD (List.drop 1 (List.take s.length s)) 0 (0 : UInt8))) : Int) = 48) then decide ((1 : Int) < (↑(List.length (List.drop 1 (List.take s.length s))) : Int)) else false) (.leaf (.ret [.int .i64 12] [])) (.leaf (.loop (Prod.fst (lps K64 0)) (Prod.snd (lps K64 0)) [(3, .str (List.drop 1 (List.take s.length s))), (31, .int .i64 (↑(List.length (List.drop 1 (List.take s.length s))) : Int)), (32, .int .i64 0), (40, .undef), (41, .undef), (42, .undef), (43, .undef)] [])))))) (.side (decide (s = Array.toList #[]) = false → (0 : Int) ≤ 0 ∧ (0 : Int) < s.length) (.ite (bif decide (s = Array.toList #[]) then true else bif decide ((↑(UInt8.toNat (List.getD s 0 (0 : UInt8))) : Int) = 48) then decide ((1 : Int) < s.length) else false) (.leaf (.ret [.int .i64 12] [])) (.leaf (.loop (Prod.fst (lps K64 0)) (Prod.snd (lps K64 0)) [(3, .str s), (31, .int .i64 s.length), (32, .int .i64 0), (40, .undef), (41, .undef), (42, .undef), (43, .undef)] [])))))) (by kernel_rfl) ?_
 simp only [Tree.holds, zd, inR, lo, hi, Bool.cond_eq_ite]
 cases s with
 | nil =>
  simp only [errI, parse, qh] at hq
  refine ⟨by simp, fun _ => ⟨fun h => by simp at h, fun _ => ⟨by simp, fun _ => ⟨fun _ => ?_, fun h => by simp at h⟩⟩⟩⟩
  exact RetR.scal hq rfl (by simp [resV])
 | cons c b =>
  refine ⟨by simp, fun _ => ⟨fun h => ?_, fun h => ?_⟩⟩
  ·have hc : c = 45 := by
    simp at h
    have : c.toNat = 45 := by omega
    exact UInt8.toNat_inj.1 this
   subst hc
   have hp : parse (45 :: b) = (true, b) := rfl
   have hd : List.drop 1 (List.take (45 :: b).length (45 :: b)) = b := by simp
   rw [hd]
   simp only [errI, hp] at hq
   refine ⟨by simp; omega, fun _ => ⟨fun h0 => ?_, fun h0 => ⟨fun hne => ?_, fun _ => ⟨fun hbad => ?_, fun hgood => ?_⟩⟩⟩⟩
   ·have hb : b = [48] := by simpa using h0
    subst hb
    exact RetR.scal hq rfl rfl
   ·have : b ≠ [] := by simpa using hne
    have := List.length_pos_iff.2 this
    omega
   ·have hnf : qh true b = false := by
     by_cases hb : b = []
     ·subst hb; rfl
     ·rw [if_neg (by simpa using hb)] at hbad
      split at hbad
      ·rename_i h48
       have : b.getD 0 0 = 48 := Z4 (of_decide_eq_true h48)
       have hl : 1 < b.length := by simp at hbad; omega
       exact xA this hl
      ·cases hbad
    rw [hnf] at hq
    exact RetR.scal hq rfl (by simp [resV])
   ·have hf : b.all isD = true → qh true b = true := by
     intro hall
     have hb : b ≠ [] := by
      intro hb; subst hb; simp at hgood
     have hb2 : b ≠ [48] := by simpa using h0
     rw [if_neg (by simpa using hb)] at hgood
     have h3 : ¬ (b.getD 0 0 = 48 ∧ 1 < b.length) := by
      rintro ⟨g1, g2⟩
      rw [g1] at hgood
      rw [if_pos (by decide)] at hgood
      simp at hgood; omega
     simp only [qh, hall, hb, hb2, Bool.and_true]
     simp only [decide_false, Bool.not_false, Bool.and_false, Bool.true_and, Bool.not_eq_true', Bool.and_eq_false_iff, decide_eq_false_iff_not]
     by_cases g1 : b.getD 0 0 = 48
     ·exact .inr fun g2 => h3 ⟨g1, g2⟩
     ·exact .inl g1
    exact Qs b (by simp at hs; omega) hf hq
  ·have hc : c ≠ 45 := by
    rintro rfl
    simp at h
   have hp : parse (c :: b) = (false, c :: b) := by simp [parse, hc]
   simp only [errI, hp] at hq
   obtain ⟨s, hs'⟩ : ∃ s, c :: b = s := ⟨_, rfl⟩
   have hne : s ≠ [] := by rw [← hs']; simp
   rw [hs'] at hq hs ⊢
   refine ⟨fun _ => ⟨by omega, by have := List.length_pos_iff.2 hne; omega⟩, fun _ => ⟨fun hbad => ?_, fun hgood => ?_⟩⟩
   ·have hnf : qh false s = false := by
     rw [if_neg (by simpa using hne)] at hbad
     split at hbad
     ·rename_i h48
      have : s.getD 0 0 = 48 := Z4 (of_decide_eq_true h48)
      have hl : 1 < s.length := by simp at hbad; omega
      exact xA this hl
     ·cases hbad
    rw [hnf] at hq
    exact RetR.scal hq rfl (by simp [resV])
   ·have hf : s.all isD = true → qh false s = true := by
     intro hall
     rw [if_neg (by simpa using hne)] at hgood
     have h3 : ¬ (s.getD 0 0 = 48 ∧ 1 < s.length) := by
      rintro ⟨g1, g2⟩
      rw [g1] at hgood
      rw [if_pos (by decide)] at hgood
      simp at hgood; omega
     simp only [qh, hall, hne, Bool.and_true]
     simp only [decide_false, Bool.not_false, Bool.false_and, Bool.true_and, Bool.not_eq_true', Bool.and_eq_false_iff, decide_eq_false_iff_not]
     by_cases g1 : s.getD 0 0 = 48
     ·exact .inr fun g2 => h3 ⟨g1, g2⟩
     ·exact .inl g1
    exact Qs s hs hf hq
def numV (neg : Bool) (x : Nat) : AV := .agg [.bool neg, magS x]
def QT : Ctr := ctrP false (fun p : List UInt8 × List UInt8 => [.str p.1, .str p.2]) (fun p => p.1.length < 2 ^ 62 ∧ p.2.length < 2 ^ 62) (fun p (r : Int × (Bool × Nat) × (Bool × Nat)) => r = if qM p.1 p.2 = 0 then (0, (negI p.1, numI p.1), (negI p.2, numI p.2)) else (qM p.1 p.2, (false, 0), (false, 0)))
 (fun _ r => (.tup [numV r.2.1.1 r.2.1.2, numV r.2.2.1 r.2.2.2, .int .i64 r.1], []))
noncomputable def G5 : Nat → Option Ctr := fun f => if f = 64 then some (Ql) else if f = 101 then some (UM) else none
theorem zgi : ∀ g c, G5 g = some c → ze Tryz.prog g c := okIf ZR (okIf zdl (zn))
theorem zf0 : canon 0 = [] := by simp [canon]
theorem zdj : ze Tryz.prog 84 QT := by
 refine zh (fn := Tryz.f84) (c := Tryz.f84.body.getD .skip) rfl rfl rfl fun p hp O w0 Q hq => ?_
 obtain ⟨s, t⟩ := p
 obtain ⟨hs, ht⟩ := hp
 replace hq := hq _ rfl
 simp only at hs ht hq
 refine zc.run hmix zgi [] 400 (T := .ex (fun (x : List UInt8) => eqL [AV.str s] [AV.str x] ∧ x.length < 4611686018427387904) fun n => .all (fun (r : Int) => r = errI n) fun n => .ite (decide (n = 0)) (.ex (fun (x : List UInt8) => eqL [AV.str t] [AV.str x] ∧ x.length < 4611686018427387904) fun n => .all (fun (r : Int) => r = errI n) fun n => .ite (!decide (n = 0)) (.leaf (.ret [.agg [.bool false, .nils], .agg [.bool false, .nils], .int .i64 n] [.box [.bool false, .nils], .box [.bool false, .nils]])) (.ex (fun (x : Bool × List UInt8) => eqL [AV.str s] [AV.str (sgn x.1 x.2)] ∧ allD x.2 ∧ x.2 ≠ [] ∧ x.2.length ≤ 1000000) fun n => .all (fun (r : Nat) => r = numD n.2) fun n_1 => .ex (fun (x : Bool × List UInt8) => eqL [AV.str t] [AV.str (sgn x.1 x.2)] ∧ allD x.2 ∧ x.2 ≠ [] ∧ x.2.length ≤ 1000000) fun n_2 => .all (fun (r : Nat) => r = numD n_2.2) fun n_3 => .leaf (.ret [.agg [.bool n.1, .sl (canon n_1).length 1 (natG .u32 (canon n_1))], .agg [.bool n_2.1, .sl (canon n_3).length 1 (natG .u32 (canon n_3))], .int .i64 0] [.box [.bool n.1, .sl (canon n_1).length 1 (natG .u32 (canon n_1))], .box [.bool n_2.1, .sl (canon n_3).length 1 (natG .u32 (canon n_3))]]))) (.ite (!decide (n = 0)) (.leaf (.ret [.agg [.bool false, .nils], .agg [.bool false, .nils], .int .i64 n] [.box [.bool false, .nils], .box [.bool false, .nils]])) (.ex (fun (x : Bool × List UInt8) => eqL [AV.str s] [AV.str (sgn x.1 x.2)] ∧ allD x.2 ∧ x.2 ≠ [] ∧ x.2.length ≤ 1000000) fun n => .all (fun (r : Nat) => r = numD n.2) fun n_1 => .ex (fun (x : Bool × List UInt8) => eqL [AV.str t] [AV.str (sgn x.1 x.2)] ∧ allD x.2 ∧ x.2 ≠ [] ∧ x.2.length ≤ 1000000) fun n_2 => .all (fun (r : Nat) => r = numD n_2.2) fun n_3 => .leaf (.ret [.agg [.bool n.1, .sl (canon n_1).length 1 (natG .u32 (canon n_1))], .agg [.bool n_2.1, .sl (canon n_3).length 1 (natG .u32 (canon n_3))], .int .i64 0] [.box [.bool n.1, .sl (canon n_1).length 1 (natG .u32 (canon n_1))], .box [.bool n_2.1, .sl (canon n_3).length 1 (natG .u32 (canon n_3))]])))) (by kernel_rfl) ?_
 have bad : ∀ h, qM s t ≠ 0 → RetR QT 0 Q [.agg [.bool false, .nils], .agg [.bool false, .nils], .int .i64 (qM s t)] h := by
  intro h he
  rw [if_neg he] at hq
  refine RetR.out0 hq (fun h => by simp [QT, ctrP] at h) ?_
  simp [resV, exp2, exp1, exp0, ren0, eqA2, eqL1, eqA, eqL0, eqA0, numV, magS, natS, zf0]
 have good : ∀ h, qM s t = 0 → RetR QT 0 Q [.agg [.bool (negI s), magS (numI s)], .agg [.bool (negI t), magS (numI t)], .int .i64 0] h := by
  intro h he
  rw [if_pos he] at hq
  refine RetR.out0 hq (fun h => by simp [QT, ctrP] at h) ?_
  simp [resV, exp2, exp1, exp0, ren0, eqA2, eqL1, eqA, eqL0, eqA0, numV, magS, natS, za]
 have rd : ∀ u, errI u = 0 → eqL [AV.str u] [AV.str (sgn (negI u) (parse u).2)] ∧ allD (parse u).2 ∧ (parse u).2 ≠ [] ∧ (parse u).2.length ≤ 1000000 := by
  intro u hu
  obtain ⟨h1, h2, h3, h4⟩ := ZM hu
  exact ⟨by simpa using h1, h2, h3, by omega⟩
 simp only [Tree.holds, zd]
 refine ⟨s, ⟨by simp, by omega⟩, ?_⟩
 refine ⟨⟨_, rfl⟩, ?_⟩
 rintro _ rfl
 refine ⟨fun h1 => ?_, fun h1 => ?_⟩
 ·have h1 : errI s = 0 := by simpa using h1
  refine ⟨t, ⟨by simp, by omega⟩, ?_⟩
  refine ⟨⟨_, rfl⟩, ?_⟩
  rintro _ rfl
  refine ⟨fun h2 => ?_, fun h2 => ?_⟩
  ·have h2 : errI t ≠ 0 := by simpa using h2
   have e : qM s t = errI t := by simp [qM, h1]
   rw [← e]
   exact bad _ (by rw [e]; exact h2)
  ·have h2 : errI t = 0 := by simpa using h2
   refine ⟨(negI s, (parse s).2), rd s h1, ?_⟩
   refine ⟨⟨_, rfl⟩, ?_⟩
   rintro _ rfl
   refine ⟨(negI t, (parse t).2), rd t h2, ?_⟩
   refine ⟨⟨_, rfl⟩, ?_⟩
   rintro _ rfl
   exact good _ (xR.2 ⟨h1, h2⟩)
 ·have h1 : errI s ≠ 0 := by simpa using h1
  have e : qM s t = errI s := by simp [qM, h1]
  refine ⟨fun h2 => ?_, fun h2 => absurd (by simpa using h2) h1⟩
  rw [← e]
  exact bad _ (by rw [e]; exact h1)
noncomputable def G6 : Nat → Option Ctr := fun f => if f = 84 then some (QT) else if f = 85 then some (uW) else if f = 86 then some (Vu) else none
theorem zer : ∀ g c, G6 g = some c → ze Tryz.prog g c := okIf zdj (okIf YT (okIf zak (zn)))
def gcdC : Ctr := ctrP true (fun p : List UInt8 × List UInt8 => [.str p.1, .str p.2]) (fun p => p.1.length < 2 ^ 62 ∧ p.2.length < 2 ^ 62) (fun p r => r = gcdR p.1 p.2) (fun _ r => (.tup [.str r.1, .int .i64 r.2], []))
def SGc : KV := [(6, .ptr 0 0), (7, .ptr 1 0)]
def HGc (m n : Bool) (x y : Nat) : Heap := [.box [.bool m, magS x], .box [.bool n, magS y]]
theorem wk {x : Nat} : x < B ^ 112 ↔ (canon x).length ≤ 112 := by
 refine ⟨fun h => zx h, fun h => ?_⟩
 have h1 := zM (zj x)
 rw [zk] at h1
 exact Nat.lt_of_lt_of_le h1 (Nat.pow_le_pow_right (by decide) h)
theorem Ua {x : Nat} : (canon x).length = 0 ↔ x = 0 := by
 constructor
 ·intro h
  have := zk x
  rw [List.length_eq_zero_iff.1 h] at this
  exact this.symm
 ·rintro rfl; simp [canon]
theorem zey : ze Tryz.prog 65 gcdC := by
 refine zh (fn := Tryz.f65) (c := Tryz.f65.body.getD .skip) rfl rfl rfl fun p hp O w0 Q hq => ?_
 obtain ⟨s, t⟩ := p
 obtain ⟨hs, ht⟩ := hp
 replace hq := hq _ rfl
 simp only at hs ht hq
 refine zc.run hmix zer [6, 7] 400 (T := .ex (fun (x : List UInt8 × List UInt8) => eqL [AV.str s, AV.str t] [AV.str x.1, AV.str x.2] ∧ x.1.length < 4611686018427387904 ∧ x.2.length < 4611686018427387904) fun n => .all (fun (r : Int × (Bool × Nat) × Bool × Nat) => r = if qM n.1 n.2 = 0 then ((0 : Int), (negI n.1, numI n.1), negI n.2, numI n.2) else (qM n.1 n.2, (false, 0), false, 0)) fun n => .ite (!decide (n.1 = 0)) (.leaf (.ret [.str (Array.toList #[]), .int .i64 n.1] [.box [.bool n.2.1.1, .sl (canon n.2.1.2).length 1 (natG .u32 (canon n.2.1.2))], .box [.bool n.2.2.1, .sl (canon n.2.2.2).length 1 (natG .u32 (canon n.2.2.2))]])) (.leaf (.loop (Prod.fst (lps K65 0)) (Prod.snd (lps K65 0)) [(6, .ptr 0 0), (7, .ptr 1 0)] [.box [.bool n.2.1.1, .sl (canon n.2.1.2).length 1 (natG .u32 (canon n.2.1.2))], .box [.bool n.2.2.1, .sl (canon n.2.2.2).length 1 (natG .u32 (canon n.2.2.2))]]))) (by kernel_rfl) ?_
 simp only [Tree.holds, zd]
 refine ⟨(s, t), ⟨by simp, hs, ht⟩, ⟨_, rfl⟩, ?_⟩
 rintro _ rfl
 refine ⟨fun he => ?_, fun he => ?_⟩
 ·have he : qM s t ≠ 0 := by
   intro h; simp [h] at he
  have e : gcdR s t = ([], qM s t) := by simp [gcdR, he]
  simp only [if_neg he]
  rw [e] at hq
  exact RetR.scal hq rfl (by simp [resV])
 ·have he : qM s t = 0 := by
   refine Decidable.byContradiction fun h => ?_
   simp [h] at he
  simp only [if_pos he]
  have e : gcdR s t = wr false (Nat.gcd (numI s) (numI t)) := by simp [gcdR, he]
  rw [e] at hq
  obtain ⟨h1, h2⟩ := xR.1 he
  have b1 := wk.2 (ZW h1)
  have b2 := wk.2 (ZW h2)
  clear e he h1 h2 hs ht
  generalize numI s = x0 at *
  generalize numI t = y0 at *
  refine zc.loop (ι := {z : Bool × Bool × Nat × Nat // Nat.gcd z.2.2.1 z.2.2.2 = Nat.gcd x0 y0 ∧ z.2.2.1 < B ^ 112 ∧ z.2.2.2 < B ^ 112}) (fun _ => SGc) (fun z => HGc z.1.1 z.1.2.1 z.1.2.2.1 z.1.2.2.2) (fun z => z.1.2.2.2) ⟨(negI s, negI t, x0, y0), rfl, b1, b2⟩ 0 ?_ ?_ (by kernel_rfl)
  ·exact ⟨by simp [SGc], by simp [HGc, magS, natS, za], by kernel_rfl, Nat.zero_le _⟩
  ·rintro ⟨⟨m, n, x, y⟩, hg, hx, hy⟩
   simp only at hg hx hy
   refine zc.run hmix zer [6, 7] 400 (T := .ite (decide ((0 : Int) < (↑(canon y).length : Int))) (.ex (fun (x_1 : Nat × Nat) => eqL [AV.sl (canon x).length 1 (natG .u32 (canon x)), AV.sl (canon y).length 1 (natG .u32 (canon y))] [AV.sl (canon x_1.1).length 1 (natG .u32 (canon x_1.1)), AV.sl (canon x_1.2).length 1 (natG .u32 (canon x_1.2))] ∧ List.length (canon x_1.1) < 100000 ∧ List.length (canon x_1.2) < 100000 ∧ 0 < x_1.2) fun n_1 => .all (fun (r : Nat × Nat) => r = (n_1.1 / n_1.2, n_1.1 % n_1.2)) fun n_2 => .leaf (.back 0 [(6, .ptr 0 0), (7, .ptr 1 0)] [.box [.bool m, .sl (canon y).length 1 (natG .u32 (canon y))], .box [.bool n, .sl (canon n_2.2).length 1 (natG .u32 (canon n_2.2))]])) (.ex (fun (x_1 : Bool × Nat) => eqL [AV.agg [AV.bool false, AV.sl (canon x).length 1 (natG .u32 (canon x))]] [AV.agg [AV.bool x_1.1, AV.sl (canon x_1.2).length 1 (natG .u32 (canon x_1.2))]] ∧ List.length (canon x_1.2) < 1000000) fun n_1 => .all (fun (r : List UInt8 × Int) => r = wr n_1.1 n_1.2) fun n_2 => .leaf (.ret [.str n_2.1, .int .i64 n_2.2] [.box [.bool m, .sl (canon x).length 1 (natG .u32 (canon x))], .box [.bool n, .sl (canon y).length 1 (natG .u32 (canon y))]]))) (by kernel_rfl) ?_
   simp only [Tree.holds, zd, inR, lo, hi]
   refine ⟨fun h0 => ?_, fun h0 => ?_⟩
   ·have hy0 : 0 < y := by
     rcases Nat.eq_zero_or_pos y with h | h
     ·rw [h] at h0; simp [canon] at h0
     ·exact h
    refine ⟨(x, y), ⟨by simp [za], ?_, ?_, hy0⟩, ⟨_, rfl⟩, ?_⟩
    ·have := wk.1 hx; show (canon x).length < 100000; omega
    ·have := wk.1 hy; show (canon y).length < 100000; omega
    rintro _ rfl
    simp only
    rw [if_pos trivial]
    refine ⟨⟨(m, n, y, x % y), ?_, hy, Nat.lt_trans (Nat.mod_lt x hy0) hy⟩, Nat.mod_lt x hy0, by simp [SGc], by simp [HGc, magS, natS, za], by kernel_rfl, Nat.zero_le _⟩
    show Nat.gcd y (x % y) = Nat.gcd x0 y0
    rw [← hg, Nat.gcd_comm x y, Nat.gcd_rec y x, Nat.gcd_comm]
   ·have hy0 : y = 0 := Ua.1 (by have h0 := of_decide_eq_false h0; omega)
    subst hy0
    refine ⟨(false, x), ⟨by simp [za], ?_⟩, ⟨_, rfl⟩, ?_⟩
    ·have := wk.1 hx; show (canon x).length < 1000000; omega
    rintro _ rfl
    rw [Nat.gcd_zero_right] at hg
    rw [← hg] at hq
    exact RetR.scal hq rfl (by simp [resV])
end Go.Proofs.Tryz
end

/- The reference's integers: digits and comparing. -/
section
set_option maxRecDepth 100000
open Go Go.Sx Go.Proofs Go.Nov
namespace Go.Proofs.Tryz
attribute [local simp] eqKV eqA eqA0 eqH eqB eqL eqL0
noncomputable def K112 : List Go.Sx.Item := [.code (Tryz.f112.body.getD .skip)]
noncomputable def K113 : List Go.Sx.Item := [.code (Tryz.f113.body.getD .skip)]
theorem q9 {h : Heap} {i sz off n n' : Nat} {g : Nat → Nat → AV} (hb : h[i]? = some (.arr n' sz g)) (hn : off + n ≤ n') : exp0 h [] (.osl i sz off n) = .sl n sz (zg g off) := by
 simp [exp0, zq, frz1, qw, hb, hn]
theorem jg {h : Heap} {i sz off n n' : Nat} {g : Nat → Nat → AV} (hb : h[i]? = some (.arr n' sz g)) (hn : off + n ≤ n') (hs : ∀ j o, j < n → o < sz → zD (zg g off j o) = true) : new0 h [] (.osl i sz off n) := by
 simp only [new0]
 intro _
 rw [q9 hb hn]
 exact hs
theorem Vl (k : IntKind) (l : List Nat) (off j o : Nat) : zD (zg (natG k l) off j o) = true := by
 simp [zg, natG, zD]
theorem Ub (g : Nat → Nat → AV) : zg g 0 = g := by
 funext j o; simp [zg]
theorem RetR.nats {ctr : Ctr} {Q : AV × Heap → Prop} {h : Heap} {i : Nat} {k : IntKind} {l : List Nat} (hq : Q (natS k l, [])) (hb : h[i]? = some (.arr l.length 1 (natG k l))) : RetR ctr 0 Q [.osl i 1 0 l.length] h := by
 refine RetR.out0 hq (fun _ => ?_) ?_
 ·exact jg hb (by omega) fun j o _ _ => Vl _ _ _ _ _
 ·have e : exp2 h [] (resV [.osl i 1 0 l.length]) = exp0 h [] (.osl i 1 0 l.length) := rfl
  rw [e, q9 hb (by omega), Ub]
  simp [eqA2, natS, za]
abbrev nat6 (l : List Nat) : AV := natS .i64 l
def atC : Ctr := ctrP true (fun p : List Nat × Nat => [nat6 p.1, .int .i64 (p.2 : Int)]) (fun p => True) (fun p r => r = p.1.getD p.2 0) (fun _ (r : Nat) => (.int .i64 (r : Int), []))
theorem zgb : ze Tryz.prog 118 atC := by
 refine zh (fn := Tryz.f118) (c := Tryz.f118.body.getD .skip) rfl rfl rfl fun p hp O w0 Q hq => ?_
 obtain ⟨l, i⟩ := p
 replace hq := hq _ rfl
 simp only at hq
 refine zc.run hmix zr [] 400 (T := .ite (decide ((↑i : Int) < l.length)) (.side ((0 : Int) ≤ i ∧ (↑i : Int) < l.length) (.leaf (.ret [.int .i64 (↑(List.getD l (Int.toNat (↑i : Int)) 0) : Int)] []))) (.leaf (.ret [.int .i64 0] []))) (by kernel_rfl) ?_
 simp only [Tree.holds, zd, inR, lo, hi, Int.toNat_natCast]
 refine ⟨fun h => ?_, fun h => ?_⟩
 ·have h : i < l.length := by have := of_decide_eq_true h; omega
  exact ⟨by omega, fun _ => RetR.scal hq rfl (by simp [resV])⟩
 ·have h : l.length ≤ i := by have := of_decide_eq_false h; omega
  rw [we h] at hq
  exact RetR.scal hq rfl (by simp [resV])
def Qo : Ctr := ctrP true (fun p : List Nat × List Nat => [nat6 p.1, nat6 p.2]) (fun p => Ten.dig p.1 ∧ Ten.dig p.2 ∧ p.1.length < 2 ^ 62 ∧ p.2.length < 2 ^ 62) (fun p r => r = cmpN (Ten.val p.1) (Ten.val p.2)) (fun _ (r : Int) => (.int .i64 r, []))
def SGr (l m : List Nat) (i : Nat) : KV := [(0, nat6 l), (1, nat6 m), (5, .int .i64 ((i : Int) - 1))]
noncomputable def GR : Nat → Option Ctr := fun f => if f = 118 then some (atC) else none
theorem KU : ∀ g c, GR g = some c → ze Tryz.prog g c := okIf zgb (zn)
theorem Zi : ze Tryz.prog 112 Qo := by
 refine zh (fn := Tryz.f112) (c := Tryz.f112.body.getD .skip) rfl rfl rfl fun p hp O w0 Q hq => ?_
 obtain ⟨l, m⟩ := p
 obtain ⟨hl, hm, hll, hml⟩ := hp
 replace hq := hq _ rfl
 simp only at hq hl hm hll hml
 refine zc.run hmix KU [0, 1, 5] 400 (T := .side (inR .i64 (max (↑l.length : Int) (↑m.length : Int) - (1 : Int))) (.leaf (.loop (Prod.fst (lps K112 0)) (Prod.snd (lps K112 0)) [(0, .sl l.length 1 (natG .i64 l)), (1, .sl m.length 1 (natG .i64 m)), (5, .int .i64 (max (↑l.length : Int) (↑m.length : Int) - (1 : Int)))] []))) (by kernel_rfl) ?_
 simp only [Tree.holds, zd, inR, lo, hi, Int.toNat_natCast]
 refine ⟨by omega, fun _ => ?_⟩
 refine zc.loop (ι := {i : Nat // i ≤ max l.length m.length ∧ ∀ j, i ≤ j → l.getD j 0 = m.getD j 0}) (fun i => SGr l m i.1) (fun _ => []) (fun i => i.1) ⟨max l.length m.length, Nat.le_refl _, fun j hj => by rw [we (by omega), we (by omega)]⟩ 0 ?_ ?_ (by kernel_rfl)
 ·exact ⟨by simp [SGr, natS, za]; omega, by simp, by kernel_rfl, Nat.zero_le _⟩
 ·rintro ⟨i, hil, hie⟩
  refine zc.run hmix KU [0, 1, 5] 400 (T := .ite (decide ((0 : Int) ≤ i - (1 : Int))) (.ex (fun (x : List Nat × Nat) => eqL [AV.sl l.length 1 (natG .i64 l), AV.int .i64 ((↑i : Int) - (1 : Int))] [AV.sl x.1.length 1 (natG .i64 x.1), AV.int .i64 x.2] ∧ True) fun n => .all (fun (r : Nat) => r = List.getD n.1 n.2 0) fun n => .ex (fun (x : List Nat × Nat) => eqL [AV.sl m.length 1 (natG .i64 m), AV.int .i64 ((↑i : Int) - (1 : Int))] [AV.sl x.1.length 1 (natG .i64 x.1), AV.int .i64 x.2] ∧ True) fun n_1 => .all (fun (r : Nat) => r = List.getD n_1.1 n_1.2 0) fun n_2 => .ite (!decide ((↑n : Int) = n_2)) (.ex (fun (x : List Nat × Nat) => eqL [AV.sl l.length 1 (natG .i64 l), AV.int .i64 ((↑i : Int) - (1 : Int))] [AV.sl x.1.length 1 (natG .i64 x.1), AV.int .i64 x.2] ∧ True) fun n => .all (fun (r : Nat) => r = List.getD n.1 n.2 0) fun n => .ex (fun (x : List Nat × Nat) => eqL [AV.sl m.length 1 (natG .i64 m), AV.int .i64 ((↑i : Int) - (1 : Int))] [AV.sl x.1.length 1 (natG .i64 x.1), AV.int .i64 x.2] ∧ True) fun n_3 => .all (fun (r : Nat) => r = List.getD n_3.1 n_3.2 0) fun n_4 => .ite (decide ((↑n_4 : Int) < n)) (.leaf (.ret [.int .i64 1] [])) (.leaf (.ret [.int .i64 (-1 : Int)] []))) (.side (inR .i64 ((↑i : Int) - (1 : Int) - (1 : Int))) (.leaf (.back 0 [(0, .sl l.length 1 (natG .i64 l)), (1, .sl m.length 1 (natG .i64 m)), (5, .int .i64 ((↑i : Int) - (1 : Int) - (1 : Int)))] [])))) (.leaf (.ret [.int .i64 0] []))) (by kernel_rfl) ?_
  simp only [Tree.holds, zd, inR, lo, hi, Int.toNat_natCast]
  refine ⟨fun hlt => ?_, fun hge => ?_⟩
  ·have hlt : 0 < i := by have := of_decide_eq_true hlt; omega
   have e : (i : Int) - 1 = ((i - 1 : Nat) : Int) := by omega
   refine ⟨(l, i - 1), ⟨by simp [za, e], trivial⟩, ⟨_, rfl⟩, ?_⟩
   rintro _ rfl
   refine ⟨(m, i - 1), ⟨by simp [za, e], trivial⟩, ⟨_, rfl⟩, ?_⟩
   rintro _ rfl
   simp only
   refine ⟨fun hne => ?_, fun heq => ⟨by omega, fun _ => ?_⟩⟩
   ·have hne : l.getD (i - 1) 0 ≠ m.getD (i - 1) 0 := by
     intro h; rw [h] at hne; simp at hne
    have hab : ∀ j, i - 1 < j → l.getD j 0 = m.getD j 0 := fun j hj => hie j (by omega)
    refine ⟨(l, i - 1), ⟨by simp [za, e], trivial⟩, ⟨_, rfl⟩, ?_⟩
    rintro _ rfl
    refine ⟨(m, i - 1), ⟨by simp [za, e], trivial⟩, ⟨_, rfl⟩, ?_⟩
    rintro _ rfl
    simp only
    refine ⟨fun h => ?_, fun h => ?_⟩
    ·have h : m.getD (i - 1) 0 < l.getD (i - 1) 0 := by have := of_decide_eq_true h; omega
     have hv := QY hm (fun j hj => (hab j hj).symm) h
     have : cmpN (Ten.val l) (Ten.val m) = 1 := by simp only [cmpN]; rw [if_neg (by omega), if_pos hv]
     rw [this] at hq
     exact RetR.scal hq rfl (by simp [resV])
    ·have h : l.getD (i - 1) 0 < m.getD (i - 1) 0 := by have := of_decide_eq_false h; omega
     have hv := QY hl hab h
     have : cmpN (Ten.val l) (Ten.val m) = -1 := by simp only [cmpN]; rw [if_pos hv]
     rw [this] at hq
     exact RetR.scal hq rfl (by simp [resV])
   ·have heq : l.getD (i - 1) 0 = m.getD (i - 1) 0 := by
     refine Decidable.byContradiction fun h => ?_
     have : ¬ ((l.getD (i - 1) 0 : Nat) : Int) = ((m.getD (i - 1) 0 : Nat) : Int) := by omega
     rw [decide_eq_false this] at heq; cases heq
    rw [if_pos trivial]
    refine ⟨⟨i - 1, by omega, fun j hj => ?_⟩, by show i - 1 < i; omega, by simp [SGr, natS, za]; omega, by simp, by kernel_rfl, Nat.zero_le _⟩
    rcases Nat.lt_or_ge j i with h | h
    ·have : j = i - 1 := by omega
     rw [this]; exact heq
    ·exact hie j h
  ·have hge : i = 0 := by have := of_decide_eq_false hge; omega
   subst hge
   have hv := ZA hl hm fun j => hie j (Nat.zero_le _)
   have : cmpN (Ten.val l) (Ten.val m) = 0 := by simp only [cmpN]; rw [if_neg (by omega), if_neg (by omega)]
   rw [this] at hq
   exact RetR.scal hq rfl (by simp [resV])
def zfu (p : List Nat × List Nat) (r : List Nat) : Prop := r.length = p.1.length ∧ Ten.dig r ∧ Ten.val r + Ten.val p.2 = Ten.val p.1
def XG : Ctr := ctrP true (fun p : List Nat × List Nat => [nat6 p.1, nat6 p.2]) (fun p => Ten.dig p.1 ∧ Ten.dig p.2 ∧ p.1.length < 2 ^ 40 ∧ Ten.val p.2 ≤ Ten.val p.1) zfu (fun _ r => (nat6 r, []))
def SMi (l m o : List Nat) (b i : Nat) : KV := [(0, nat6 l), (1, nat6 m), (5, .osl 0 1 0 o.length), (6, .int .i64 (b : Int)), (7, .int .i64 (i : Int))]
theorem Y5 : ze Tryz.prog 113 XG := by
 refine zh (fn := Tryz.f113) (c := Tryz.f113.body.getD .skip) rfl rfl rfl fun p hp O w0 Q hq => ?_
 obtain ⟨l, m⟩ := p
 obtain ⟨hl, hm, hll, hml⟩ := hp
 simp only at hq hl hm hll hml
 refine zc.run hmix KU [0, 1, 5, 6, 7] 400 (T := .leaf (.loop (Prod.fst (lps K113 0)) (Prod.snd (lps K113 0)) [(0, .sl l.length 1 (natG .i64 l)), (1, .sl m.length 1 (natG .i64 m)), (5, .nils), (6, .int .i64 0), (7, .int .i64 0)] [])) (by kernel_rfl) ?_
 simp only [Tree.holds, zd, inR, lo, hi, Int.toNat_natCast]
 refine zc.bear 5 1 (natG .i64 []) rfl (by decide) (by kernel_rfl) ?_
 refine zc.loop (ι := {z : List Nat × Nat × Nat // z.1.length = z.2.2 ∧ z.2.2 ≤ l.length ∧ Ten.dig z.1 ∧ z.2.1 ≤ 1 ∧ Ten.val z.1 + Ten.val (m.take z.2.2) = Ten.val (l.take z.2.2) + 10 ^ z.2.2 * z.2.1}) (fun z => SMi l m z.1.1 z.1.2.1 z.1.2.2) (fun z => [.arr z.1.1.length 1 (natG .i64 z.1.1)]) (fun z => l.length - z.1.2.2) ⟨([], 0, 0), rfl, Nat.zero_le _, by simp [Ten.dig], Nat.zero_le _, by simp [Ten.val]⟩ 0 ?_ ?_ (by kernel_rfl)
 ·refine ⟨by simp [SMi, natS, za, kH], by simp [za], by kernel_rfl, Nat.zero_le _⟩
 ·rintro ⟨⟨o, b, i⟩, hol, hil, hod, hb, hv⟩
  refine zc.run hmix KU [0, 1, 5, 6, 7] 400 (T := .ite (decide ((↑i : Int) < l.length)) (.side ((0 : Int) ≤ i ∧ (↑i : Int) < l.length) (.ex (fun (x : List Nat × Nat) => eqL [AV.sl m.length 1 (natG .i64 m), AV.int .i64 i] [AV.sl x.1.length 1 (natG .i64 x.1), AV.int .i64 x.2] ∧ True) fun n => .all (fun (r : Nat) => r = List.getD n.1 n.2 0) fun n => .side (inR .i64 ((↑(List.getD l (Int.toNat (↑i : Int)) 0) : Int) - n)) (.side (inR .i64 ((↑(List.getD l (Int.toNat (↑i : Int)) 0) : Int) - n - (↑b : Int))) (.ite (decide ((↑(List.getD l (Int.toNat (↑i : Int)) 0) : Int) - n - (↑b : Int) < 0)) (.side (inR .i64 ((↑(List.getD l (Int.toNat (↑i : Int)) 0) : Int) - n - (↑b : Int) + (10 : Int))) (.side (0 = 0 ∧ o.length ≤ o.length ∧ (o.length + 1) * 8 ≤ 140737488355328) (.side (inR .i64 ((↑i : Int) + (1 : Int))) (.leaf (.back 0 [(0, .sl l.length 1 (natG .i64 l)), (1, .sl m.length 1 (natG .i64 m)), (5, .osl 0 1 0 (o.length + 1)), (6, .int .i64 1), (7, .int .i64 ((↑i : Int) + (1 : Int)))] [.arr (o.length + 1) 1 (appG o.length (natG .i64 o) (zg (zf 1 [.int .i64 ((↑(List.getD l (Int.toNat (↑i : Int)) 0) : Int) - n - (↑b : Int) + (10 : Int))]) 0)), .arr 1 1 (zf 1 [.int .i64 ((↑(List.getD l (Int.toNat (↑i : Int)) 0) : Int) - n - (↑b : Int) + (10 : Int))])]))))) (.side (0 = 0 ∧ o.length ≤ o.length ∧ (o.length + 1) * 8 ≤ 140737488355328) (.side (inR .i64 ((↑i : Int) + (1 : Int))) (.leaf (.back 0 [(0, .sl l.length 1 (natG .i64 l)), (1, .sl m.length 1 (natG .i64 m)), (5, .osl 0 1 0 (o.length + 1)), (6, .int .i64 0), (7, .int .i64 ((↑i : Int) + (1 : Int)))] [.arr (o.length + 1) 1 (appG o.length (natG .i64 o) (zg (zf 1 [.int .i64 ((↑(List.getD l (Int.toNat (↑i : Int)) 0) : Int) - n - (↑b : Int))]) 0)), .arr 1 1 (zf 1 [.int .i64 ((↑(List.getD l (Int.toNat (↑i : Int)) 0) : Int) - n - (↑b : Int))])])))))))) (.leaf (.ret [.osl 0 1 0 o.length] [.arr o.length 1 (natG .i64 o)]))) (by kernel_rfl) ?_
  simp only [Tree.holds, zd, inR, lo, hi, Int.toNat_natCast]
  simp only at hol hil hod hb hv
  refine ⟨fun hlt => ?_, fun hge => ?_⟩
  ·have hlt : i < l.length := by have := of_decide_eq_true hlt; omega
   refine ⟨by omega, fun _ => ?_⟩
   refine ⟨(m, i), ⟨by simp [za], trivial⟩, ⟨_, rfl⟩, ?_⟩
   rintro _ rfl
   simp only
   have h1 : l.getD i 0 < 10 := Ten.zE hl i
   have h2 : m.getD i 0 < 10 := Ten.zE hm i
   have step : ∀ d b', d + m.getD i 0 + b = l.getD i 0 + 10 * b' → Ten.val (o ++ [d]) + Ten.val (m.take (i + 1)) = Ten.val (l.take (i + 1)) + 10 ^ (i + 1) * b' := by
    intro d b' h
    rw [Ten.z2, Ten.zp, Ten.zp, hol, Nat.pow_succ]
    have := VQ hv h
    simpa [Ten.val] using this
   obtain ⟨x, hx⟩ : ∃ x, l.getD i 0 = x := ⟨_, rfl⟩
   obtain ⟨y, hy⟩ : ∃ y, m.getD i 0 = y := ⟨_, rfl⟩
   simp only [hx, hy] at h1 h2 step ⊢
   iterate 2 refine ⟨by clear step; omega, fun _ => ?_⟩
   have ei : ((i : Int) + 1) = ((i + 1 : Nat) : Int) := by omega
   refine ⟨fun hneg => ?_, fun hpos => ?_⟩
   ·have hneg : x < y + b := by have := of_decide_eq_true hneg; clear step; omega
    refine ⟨by clear step; omega, fun _ => ?_⟩
    refine ⟨⟨trivial, Nat.le_refl _, by clear step; omega⟩, fun _ => ⟨by clear step; omega, fun _ => ?_⟩⟩
    rw [if_pos trivial]
    obtain ⟨d, hd⟩ : ∃ d, d + y + b = x + 10 := ⟨x + 10 - y - b, by clear step; omega⟩
    have hd2 : (x : Int) - y - b + 10 = (d : Nat) := by clear step; omega
    refine ⟨⟨(o ++ [d], 1, i + 1), by simp [hol], hlt, Ten.q5.2 ⟨hod, by simp only [Ten.dig, List.mem_singleton]; rintro _ rfl; show _ < 10; clear step; omega⟩, Nat.le_refl _, step d 1 (by clear step; omega)⟩, by show l.length - (i + 1) < l.length - i; omega, ?_, jw hd2, by kernel_rfl, Nat.zero_le _⟩
    simp [SMi, natS, za]
   ·have hpos : y + b ≤ x := by have := of_decide_eq_false hpos; clear step; omega
    refine ⟨⟨trivial, Nat.le_refl _, by clear step; omega⟩, fun _ => ⟨by clear step; omega, fun _ => ?_⟩⟩
    rw [if_pos trivial]
    obtain ⟨d, hd⟩ : ∃ d, d + y + b = x := ⟨x - y - b, by clear step; omega⟩
    have hd2 : (x : Int) - y - b = (d : Nat) := by clear step; omega
    refine ⟨⟨(o ++ [d], 0, i + 1), by simp [hol], hlt, Ten.q5.2 ⟨hod, by simp only [Ten.dig, List.mem_singleton]; rintro _ rfl; show _ < 10; clear step; omega⟩, Nat.zero_le _, step d 0 (by clear step; omega)⟩, by show l.length - (i + 1) < l.length - i; omega, ?_, jw hd2, by kernel_rfl, Nat.zero_le _⟩
    simp [SMi, natS, za]
  ·have hge : i = l.length := by have := of_decide_eq_false hge; omega
   subst hge
   exact RetR.nats (hq o ⟨hol, hod, Y6 hl hod hol hml hv⟩) rfl
end Go.Proofs.Tryz
end

/- The reference's integers: texts. -/
section
set_option maxRecDepth 100000
open Go Go.Sx Go.Proofs Go.Nov
namespace Go.Proofs.Tryz
attribute [local simp] eqKV eqA eqA0 eqH eqB eqL eqL0
noncomputable def K99 : List Go.Sx.Item := [.code (Tryz.f99.body.getD .skip)]
noncomputable def K76 : List Go.Sx.Item := [.code (Tryz.f76.body.getD .skip)]
def zek : Ctr := ctrP true (fun l : List Nat => [nat6 l]) (fun l => Ten.dig l ∧ l.length < 2 ^ 62) (fun l r => r = decide (Ten.val l = 0)) (fun _ (r : Bool) => (.bool r, []))
noncomputable def GR1 : Nat → Option Ctr := fun f => if f = 112 then some (Qo) else none
theorem zfr : ∀ g c, GR1 g = some c → ze Tryz.prog g c := okIf Zi (zn)
theorem zcj : ze Tryz.prog 97 zek := by
 refine zh (fn := Tryz.f97) (c := Tryz.f97.body.getD .skip) rfl rfl rfl fun l hp O w0 Q hq => ?_
 obtain ⟨hl, hll⟩ := hp
 replace hq := hq _ rfl
 refine zc.run hmix zfr [] 400 (T := .ex (fun (x : List Nat × List Nat) => eqL [AV.sl l.length 1 (natG .i64 l), AV.nils] [AV.sl x.1.length 1 (natG .i64 x.1), AV.sl x.2.length 1 (natG .i64 x.2)] ∧ Ten.dig x.1 ∧ Ten.dig x.2 ∧ x.1.length < 4611686018427387904 ∧ x.2.length < 4611686018427387904) fun n => .all (fun (r : Int) => r = cmpN (Ten.val n.1) (Ten.val n.2)) fun n => .leaf (.ret [.bool (decide (n = 0))] [])) (by kernel_rfl) ?_
 simp only [Tree.holds, zd]
 refine ⟨(l, []), ⟨by simp [za], hl, by simp [Ten.dig], hll, by simp⟩, ⟨_, rfl⟩, ?_⟩
 rintro _ rfl
 have : decide (cmpN (Ten.val l) (Ten.val []) = 0) = decide (Ten.val l = 0) := by
  have e : Ten.val [] = 0 := rfl
  rw [e]
  by_cases h : Ten.val l = 0
  ·rw [h]; rfl
  ·have : cmpN (Ten.val l) 0 = 1 := by unfold cmpN; rw [if_neg (by omega), if_pos (by omega)]
   rw [this, decide_eq_false h]; rfl
 rw [← this] at hq
 exact RetR.scal hq rfl (by simp [resV])
def K3 : Ctr := ctrP true (fun p : List Nat × Bool => [nat6 p.1, .bool p.2]) (fun p => Ten.dig p.1 ∧ p.1.length < 2 ^ 40) (fun p r => r = xt p.2 (Ten.val p.1)) (fun _ r => (.str r, []))
def STx (l : List Nat) (neg : Bool) (n : Nat) : KV := [(0, nat6 l), (1, .bool neg), (5, .int .i64 (n : Int)), (6, .undef), (7, .undef), (13, .undef), (14, .undef), (15, .undef), (16, .undef), (17, .undef), (18, .undef)]
def STy (l : List Nat) (neg : Bool) (n i : Nat) (b : List Nat) : KV := [(0, nat6 l), (1, .bool neg), (5, .int .i64 (n : Int)), (6, .osl 1 1 0 b.length), (7, .int .i64 ((i : Int) - 1)), (13, .undef), (14, .undef), (15, .undef), (16, .undef), (17, .undef), (18, .undef)]
theorem QM {O : Nat → Prop} {w0 : World} {Q : AV × Heap → Prop} {Hs : Nat → KV → Heap → Prop} (l : List Nat) (neg : Bool) (n : Nat) (hl : Ten.dig l) (hll : l.length < 2 ^ 40) (hn : n ≤ l.length) (ht : n = Ten.tlen l) (h0 : 0 < n) (hq : Q (.str (xt neg (Ten.val l)), [])) (kv : KV) (h : Heap)
  (hle : LeK 0 Tryz.f99.ntmps kv h (STy l neg n n (tbL l neg n n)) [.dead, .arr (tbL l neg n n).length 1 (natG .u8 (tbL l neg n n))]) :
  zc Tryz.prog Tryz.f99 O 0 w0 [] Hs (RetR K3 0 Q) (.code (.loop (lps (inside K99 0) 0).1) :: (lps (inside K99 0) 0).2) (mk Tryz.f99.ntmps kv h) := by
 refine zc.loop (ι := {i : Nat // i ≤ n}) (fun i => STy l neg n i.1 (tbL l neg n i.1)) (fun i => [.dead, .arr (tbL l neg n i.1).length 1 (natG .u8 (tbL l neg n i.1))]) (fun i => i.1) ⟨n, Nat.le_refl _⟩ 0 hle ?_ (by kernel_rfl)
 rintro ⟨i, hin⟩
 obtain ⟨b, hb⟩ : ∃ b, tbL l neg n i = b := ⟨_, rfl⟩
 have hbl := zcn l neg n i
 simp only [hb] at hbl ⊢
 refine zc.run hmix zr [0, 1, 5, 6, 7, 13, 14, 15, 16, 17, 18] 400 (T := .ite (decide ((0 : Int) ≤ i - (1 : Int))) (.side ((0 : Int) ≤ i - (1 : Int) ∧ (↑i : Int) - (1 : Int) < l.length) (.side (inR .i64 ((48 : Int) + (↑(List.getD l (Int.toNat ((↑i : Int) - (1 : Int))) 0) : Int))) (.side (inR .u8 ((48 : Int) + (↑(List.getD l (Int.toNat ((↑i : Int) - (1 : Int))) 0) : Int))) (.side (0 = 0 ∧ b.length ≤ b.length ∧ (b.length + 1) * 1 ≤ 140737488355328) (.side (inR .i64 ((↑i : Int) - (1 : Int) - (1 : Int))) (.leaf (.back 0 [(0, .sl l.length 1 (natG .i64 l)), (1, .bool neg), (5, .int .i64 n), (6, .osl 1 1 0 (b.length + 1)), (7, .int .i64 ((↑i : Int) - (1 : Int) - (1 : Int))), (13, .undef), (14, .undef), (15, .undef), (16, .undef), (17, .undef), (18, .undef)] [.dead, .arr (b.length + 1) 1 (appG b.length (natG .u8 b) (zg (zf 1 [.int .u8 ((48 : Int) + (↑(List.getD l (Int.toNat ((↑i : Int) - (1 : Int))) 0) : Int))]) 0)), .arr 1 1 (zf 1 [.int .u8 ((48 : Int) + (↑(List.getD l (Int.toNat ((↑i : Int) - (1 : Int))) 0) : Int))])]))))))) (.side (∀ (j : Nat), j < b.length → ∃ (b_1 : UInt8), AV.int .u8 (↑(List.getD b (0 + j) 0) : Int) = AV.int .u8 (↑(UInt8.toNat b_1) : Int)) (.leaf (.ret [.str (vI b.length (zg (natG .u8 b) 0))] [.dead, .arr b.length 1 (natG .u8 b)])))) (by kernel_rfl) ?_
 simp only [Tree.holds, zd, inR, lo, hi, Int.toNat_natCast]
 refine ⟨fun hge => ?_, fun hlt => ?_⟩
 ·have hi0 : 0 < i := by have := of_decide_eq_true hge; omega
  have e : ((i : Int) - 1).toNat = i - 1 := by omega
  have hd : l.getD (i - 1) 0 < 10 := Ten.zE hl (i - 1)
  have hst := UE (l := l) (neg := neg) hi0 hin hn
  rw [hb] at hst
  rw [e]
  obtain ⟨x, hx⟩ : ∃ x, l.getD (i - 1) 0 = x := ⟨_, rfl⟩
  simp only [hx] at hd hst ⊢
  iterate 3 refine ⟨by omega, fun _ => ?_⟩
  refine ⟨⟨trivial, Nat.le_refl _, by omega⟩, fun _ => ⟨by omega, fun _ => ?_⟩⟩
  rw [if_pos trivial]
  refine ⟨⟨i - 1, by omega⟩, by show i - 1 < i; omega, ?_, ?_, by kernel_rfl, Nat.zero_le _⟩
  ·simp only [← hst]
   simp [STy, natS, za]; omega
  ·simp only [← hst]
   exact ⟨trivial, jw (d := 48 + x) (by omega)⟩
 ·have hi0 : i = 0 := by have := of_decide_eq_false hlt; omega
  subst hi0
  refine ⟨fun j hj => ⟨UInt8.ofNat (b.getD (0 + j) 0), ?_⟩, fun _ => ?_⟩
  ·have := zg0 hl neg n 0 (0 + j)
   rw [hb] at this
   have e2 : (UInt8.ofNat (b.getD (0 + j) 0)).toNat = b.getD (0 + j) 0 := by rw [UInt8.toNat_ofNat']; exact Nat.mod_eq_of_lt this
   rw [e2]
  ·rw [xH _ _ _ (Nat.le_refl _), List.take_length, ← hb, KJ hl ht h0]
   exact RetR.scal hq rfl (by simp [resV])
theorem UA : ze Tryz.prog 99 K3 := by
 refine zh (fn := Tryz.f99) (c := Tryz.f99.body.getD .skip) rfl rfl rfl fun p hp O w0 Q hq => ?_
 obtain ⟨l, neg⟩ := p
 obtain ⟨hl, hll⟩ := hp
 replace hq := hq _ rfl
 simp only at hq hl hll
 refine zc.run hmix zr [0, 1, 5, 6, 7, 13, 14, 15, 16, 17, 18] 400 (T := .leaf (.loop (Prod.fst (lps K99 0)) (Prod.snd (lps K99 0)) [(0, .sl l.length 1 (natG .i64 l)), (1, .bool neg), (5, .int .i64 l.length), (6, .undef), (7, .undef), (13, .undef), (14, .undef), (15, .undef), (16, .undef), (17, .undef), (18, .undef)] [])) (by kernel_rfl) ?_
 simp only [Tree.holds, zd]
 refine zc.loop (ι := {n : Nat // n ≤ l.length ∧ Ten.tlen l ≤ n}) (fun n => STx l neg n.1) (fun _ => []) (fun n => n.1) ⟨l.length, Nat.le_refl _, Ten.qg l⟩ 0 ?_ ?_ (by kernel_rfl)
 ·exact ⟨by simp [STx, natS, za], by simp, by kernel_rfl, Nat.zero_le _⟩
 ·rintro ⟨n, hn, ht⟩
  refine zc.run hmix zr [0, 1, 5, 6, 7, 13, 14, 15, 16, 17, 18] 400 (T := .side (decide ((0 : Int) < n) = true → inR .i64 ((↑n : Int) - (1 : Int))) (.side (decide ((0 : Int) < n) = true → (0 : Int) ≤ n - (1 : Int) ∧ (↑n : Int) - (1 : Int) < l.length) (.ite (bif decide ((0 : Int) < n) then decide ((↑(List.getD l (Int.toNat ((↑n : Int) - (1 : Int))) 0) : Int) = 0) else false) (.side (inR .i64 ((↑n : Int) - (1 : Int))) (.leaf (.back 0 [(0, .sl l.length 1 (natG .i64 l)), (1, .bool neg), (5, .int .i64 ((↑n : Int) - (1 : Int))), (6, .undef), (7, .undef), (13, .undef), (14, .undef), (15, .undef), (16, .undef), (17, .undef), (18, .undef)] []))) (.ite (decide ((↑n : Int) = 0)) (.leaf (.ret [.str (Array.toList #[(48 : UInt8)])] [])) (.ite neg (.side (1 ≤ 140737488355328) (.side (inR .i64 ((↑n : Int) - (1 : Int))) (.leaf (.loop (Prod.fst (lps (inside K99 0) 0)) (Prod.snd (lps (inside K99 0) 0)) [(0, .sl l.length 1 (natG .i64 l)), (1, .bool neg), (5, .int .i64 n), (6, .osl 1 1 0 1), (7, .int .i64 ((↑n : Int) - (1 : Int))), (13, .undef), (14, .undef), (15, .undef), (16, .undef), (17, .undef), (18, .undef)] [.arr 1 1 (zf 1 [.int .u8 45]), .arr 1 1 (zg (zf 1 [.int .u8 45]) 0)])))) (.side (inR .i64 ((↑n : Int) - (1 : Int))) (.leaf (.loop (Prod.fst (lps (inside K99 0) 0)) (Prod.snd (lps (inside K99 0) 0)) [(0, .sl l.length 1 (natG .i64 l)), (1, .bool neg), (5, .int .i64 n), (6, .nils), (7, .int .i64 ((↑n : Int) - (1 : Int))), (13, .undef), (14, .undef), (15, .undef), (16, .undef), (17, .undef), (18, .undef)] [])))))))) (by kernel_rfl) ?_
  simp only [Tree.holds, zd, inR, lo, hi, Int.toNat_natCast]
  refine ⟨by omega, fun _ => ⟨fun h => by have := of_decide_eq_true h; omega, fun _ => ⟨fun hz => ?_, fun hz => ?_⟩⟩⟩
  ·have hn0 : 0 < n := by
    rcases Nat.eq_zero_or_pos n with h | h
    ·subst h; simp at hz
    ·exact h
   have e : ((n : Int) - 1).toNat = n - 1 := by omega
   have hz : l.getD (n - 1) 0 = 0 := by
    rw [decide_eq_true (by omega), e] at hz
    have := of_decide_eq_true hz
    omega
   refine ⟨by omega, fun _ => ?_⟩
   rw [if_pos trivial]
   refine ⟨⟨n - 1, by omega, ?_⟩, by show n - 1 < n; omega, by simp [STx, natS, za]; omega, by simp, by kernel_rfl, Nat.zero_le _⟩
   refine Nat.le_of_not_lt fun hlt => ?_
   have hnt : n = Ten.tlen l := by omega
   subst hnt
   exact Ten.qa l hn0 hz
  ·have e : ((n : Int) - 1).toNat = n - 1 := by omega
   have hnt : n = Ten.tlen l := by
    rcases Nat.eq_zero_or_pos n with h | h
    ·omega
    ·refine Nat.le_antisymm (Nat.le_of_not_lt fun hlt => ?_) ht
     have := Ten.qU l (n - 1) (by omega)
     rw [decide_eq_true (by omega), e, this] at hz
     simp at hz
   refine ⟨fun h0 => ?_, fun h0 => ?_⟩
   ·have h0 : n = 0 := by have := of_decide_eq_true h0; omega
    rw [YM (by omega)] at hq
    exact RetR.scal hq rfl (by simp [resV])
   ·have h0 : 0 < n := by have := of_decide_eq_false h0; omega
    refine ⟨fun hneg => ⟨by omega, fun _ => ⟨by omega, fun _ => ?_⟩⟩, fun hneg => ⟨by omega, fun _ => ?_⟩⟩
    ·subst hneg
     refine QM l true n hl hll hn hnt h0 hq _ _ ⟨?_, ?_, by kernel_rfl, Nat.zero_le _⟩
     ·simp [STy, natS, za, uZ]
     ·simp only [uZ, if_true, List.length_singleton]
      refine ⟨trivial, ⟨rfl, rfl, ?_⟩, trivial⟩
      intro j o hj ho
      simpa [zg] using vY .u8 45 j o hj ho
    ·subst hneg
     refine zc.void (by kernel_rfl) ?_
     refine zc.bear 6 1 (natG .u8 []) rfl (by decide) (by kernel_rfl) ?_
     refine QM l false n hl hll hn hnt h0 hq _ _ ⟨?_, ?_, by kernel_rfl, Nat.zero_le _⟩
     ·simp [STy, natS, za, uZ, kH]
     ·simp [uZ, za]
def xg : Ctr := ctrP true (fun s : List UInt8 => [.str s]) (fun s => s.length < 2 ^ 40) (fun s r => r = digR s) (fun _ r => (.tup [nat6 r.1, .bool r.2.1, .bool r.2.2], []))
def SDi (b : List UInt8) (neg : Bool) (i : Nat) (o : List Nat) : KV := [(5, .str b), (6, .bool neg), (7, .osl 0 1 0 o.length), (8, .int .i64 ((i : Int) - 1)), (49, .undef), (50, .undef), (51, .undef), (52, .undef)]
theorem uP {O : Nat → Prop} {w0 : World} {Q : AV × Heap → Prop} {Hs : Nat → KV → Heap → Prop} (b : List UInt8) (neg : Bool) (hbl : b.length < 2 ^ 40) (hb0 : b ≠ []) (hf : b.all isD = true → qh neg b = true)
  (hq : Q (.tup [nat6 (if qh neg b then (dg b, neg, true) else ([], false, false)).1, .bool (if qh neg b then (dg b, neg, true) else ([], false, false)).2.1, .bool (if qh neg b then (dg b, neg, true) else ([], false, false)).2.2], [])) :
  zc Tryz.prog Tryz.f76 O 0 w0 [] Hs (RetR xg 0 Q) (.code (.loop (lps K76 0).1) :: (lps K76 0).2) (mk Tryz.f76.ntmps [(5, .str b), (6, .bool neg), (7, .nils), (8, .int .i64 ((b.length : Int) - 1)), (49, .undef), (50, .undef), (51, .undef), (52, .undef)] []) := by
 refine zc.bear 7 1 (natG .i64 []) rfl (by decide) (by kernel_rfl) ?_
 refine zc.loop (ι := {i : Nat // i ≤ b.length ∧ ∀ j, i ≤ j → j < b.length → isD (b.getD j 0) = true}) (fun i => SDi b neg i.1 (dg (b.drop i.1))) (fun i => [.arr (dg (b.drop i.1)).length 1 (natG .i64 (dg (b.drop i.1)))]) (fun i => i.1) ⟨b.length, Nat.le_refl _, fun j h1 h2 => by omega⟩ 0 ?_ ?_ (by kernel_rfl)
 ·exact ⟨by simp [SDi, kH, dg], by simp [dg, za], by kernel_rfl, Nat.zero_le _⟩
 ·rintro ⟨i, hil, hid⟩
  have hdl : (dg (b.drop i)).length = b.length - i := by rw [ux, List.length_drop]
  obtain ⟨o, ho⟩ : ∃ o, dg (b.drop i) = o := ⟨_, rfl⟩
  simp only [ho] at hdl ⊢
  refine zc.run hmix zr [5, 6, 7, 8, 49, 50, 51, 52] 400 (T := .ite (decide ((0 : Int) ≤ i - (1 : Int))) (.side ((0 : Int) ≤ i - (1 : Int) ∧ (↑i : Int) - (1 : Int) < b.length) (.side (decide ((↑(UInt8.toNat (List.getD b (Int.toNat ((↑i : Int) - (1 : Int))) (0 : UInt8))) : Int) < 48) = false → (0 : Int) ≤ i - (1 : Int) ∧ (↑i : Int) - (1 : Int) < b.length) (.ite (bif decide ((↑(UInt8.toNat (List.getD b (Int.toNat ((↑i : Int) - (1 : Int))) (0 : UInt8))) : Int) < 48) then true else decide ((57 : Int) < (↑(UInt8.toNat (List.getD b (Int.toNat ((↑i : Int) - (1 : Int))) (0 : UInt8))) : Int))) (.leaf (.ret [.nils, .bool false, .bool false] [.arr o.length 1 (natG .i64 o)])) (.side ((0 : Int) ≤ i - (1 : Int) ∧ (↑i : Int) - (1 : Int) < b.length) (.side (inR .u8 ((↑(UInt8.toNat (List.getD b (Int.toNat ((↑i : Int) - (1 : Int))) (0 : UInt8))) : Int) - (48 : Int))) (.side (inR .i64 ((↑(UInt8.toNat (List.getD b (Int.toNat ((↑i : Int) - (1 : Int))) (0 : UInt8))) : Int) - (48 : Int))) (.side (0 = 0 ∧ o.length ≤ o.length ∧ (o.length + 1) * 8 ≤ 140737488355328) (.side (inR .i64 ((↑i : Int) - (1 : Int) - (1 : Int))) (.leaf (.back 0 [(5, .str b), (6, .bool neg), (7, .osl 0 1 0 (o.length + 1)), (8, .int .i64 ((↑i : Int) - (1 : Int) - (1 : Int))), (49, .undef), (50, .undef), (51, .undef), (52, .undef)] [.arr (o.length + 1) 1 (appG o.length (natG .i64 o) (zg (zf 1 [.int .i64 ((↑(UInt8.toNat (List.getD b (Int.toNat ((↑i : Int) - (1 : Int))) (0 : UInt8))) : Int) - (48 : Int))]) 0)), .arr 1 1 (zf 1 [.int .i64 ((↑(UInt8.toNat (List.getD b (Int.toNat ((↑i : Int) - (1 : Int))) (0 : UInt8))) : Int) - (48 : Int))])])))))))))) (.leaf (.ret [.osl 0 1 0 o.length, .bool neg, .bool true] [.arr o.length 1 (natG .i64 o)]))) (by kernel_rfl) ?_
  simp only [Tree.holds, zd, inR, lo, hi, Int.toNat_natCast, Bool.cond_eq_ite]
  refine ⟨fun hge => ?_, fun hlt => ?_⟩
  ·have hi0 : 0 < i := by have := of_decide_eq_true hge; omega
   have e : ((i : Int) - 1).toNat = i - 1 := by omega
   have hst := zdn hi0 hil
   rw [ho] at hst
   simp only [e]
   refine ⟨by omega, fun _ => ⟨fun _ => by omega, fun _ => ⟨fun hbad => ?_, fun hgood => ⟨by omega, fun _ => ?_⟩⟩⟩⟩
   ·rw [kD] at hbad
    have hnf : qh neg b = false := by
     have : b.all isD = false := by
      rw [List.all_eq_false]
      have hib : i - 1 < b.length := by omega
      refine ⟨b.getD (i - 1) 0, by simp [List.getD, hib], by simpa using hbad⟩
     simp [qh, this]
    rw [hnf] at hq
    refine RetR.out0 hq (fun _ => ?_) ?_
    ·simp [resV, new2, new1, new0, zD]
    ·simp [resV, exp2, exp1, exp0, ren0, eqA2, eqL1, eqA, eqA0, natS]
   ·rw [kD] at hgood
    have hd : isD (b.getD (i - 1) 0) = true := by simpa using hgood
    have hc : 48 ≤ (b.getD (i - 1) 0).toNat ∧ (b.getD (i - 1) 0).toNat ≤ 57 := by simpa [isD] using hd
    obtain ⟨c, hcc⟩ : ∃ c, (b.getD (i - 1) 0).toNat = c := ⟨_, rfl⟩
    simp only [hcc] at hc hst ⊢
    iterate 2 refine ⟨by omega, fun _ => ?_⟩
    refine ⟨⟨trivial, Nat.le_refl _, by omega⟩, fun _ => ⟨by omega, fun _ => ?_⟩⟩
    rw [if_pos trivial]
    refine ⟨⟨i - 1, by omega, fun j h1 h2 => ?_⟩, by show i - 1 < i; omega, ?_, ?_, by kernel_rfl, Nat.zero_le _⟩
    ·rcases Nat.lt_or_ge j i with h | h
     ·have : j = i - 1 := by omega
      subst this; exact hd
     ·exact hid j h h2
    ·simp only [← hst]
     simp [SDi]; omega
    ·simp only [← hst]
     exact jw (d := c - 48) (by omega)
  ·have hi0 : i = 0 := by have := of_decide_eq_false hlt; omega
   subst hi0
   have hall : b.all isD = true := by
    rw [List.all_eq_true]
    intro c hc
    obtain ⟨j, hj, rfl⟩ := List.getElem_of_mem hc
    have := hid j (Nat.zero_le _) hj
    simpa [List.getD, hj] using this
   rw [hf hall] at hq
   have ho : dg b = o := ho
   simp only [if_true, ho] at hq
   have hb : ([.arr o.length 1 (natG .i64 o)] : Heap)[0]? = some (.arr o.length 1 (natG .i64 o)) := rfl
   refine RetR.out0 hq (fun _ => ?_) ?_
   ·simp only [resV, new2, List.mem_cons, List.not_mem_nil, or_false, forall_eq_or_imp, forall_eq]
    exact ⟨jg hb (by omega) fun j o _ _ => Vl _ _ _ _ _, rfl, rfl⟩
   ·simp only [resV, exp2, List.map_cons, List.map_nil, exp1]
    rw [q9 hb (by omega), Ub]
    simp [eqA2, eqL1, eqA, eqA0, natS, za, exp0, ren0]
theorem uE : ze Tryz.prog 76 xg := by
 refine zh (fn := Tryz.f76) (c := Tryz.f76.body.getD .skip) rfl rfl rfl fun s hs O w0 Q hq => ?_
 replace hq := hq _ rfl
 refine zc.run hmix zr [5, 6, 7, 8, 49, 50, 51, 52] 400 (T := .side (decide ((0 : Int) < s.length) = true → (0 : Int) ≤ 0 ∧ (0 : Int) < s.length) (.ite (bif decide ((0 : Int) < s.length) then decide ((↑(UInt8.toNat (List.getD s 0 (0 : UInt8))) : Int) = 45) else false) (.side ((0 : Int) ≤ 1 ∧ (1 : Int) ≤ s.length) (.side (decide ((↑(List.length (List.drop 1 (List.take s.length s))) : Int) = 0) = false → (0 : Int) ≤ 0 ∧ (0 : Int) < (↑(List.length (List.drop 1 (List.take s.length s))) : Int)) (.ite (bif decide ((↑(List.length (List.drop 1 (List.take s.length s))) : Int) = 0) then true else bif decide ((↑(UInt8.toNat (List.getD (List.drop 1 (List.take s.length s)) 0 (0 : UInt8))) : Int) = 48) then bif decide ((1 : Int) < (↑(List.length (List.drop 1 (List.take s.length s))) : Int)) then true else bif decide ((0 : Int) < s.length) then decide ((↑(UInt8.toNat (List.getD s 0 (0 : UInt8))) : Int) = 45) else false else false) (.leaf (.ret [.nils, .bool false, .bool false] [])) (.side (inR .i64 ((↑(List.length (List.drop 1 (List.take s.length s))) : Int) - (1 : Int))) (.leaf (.loop (Prod.fst (lps K76 0)) (Prod.snd (lps K76 0)) [(5, .str (List.drop 1 (List.take s.length s))), (6, .bool (bif decide ((0 : Int) < s.length) then decide ((↑(UInt8.toNat (List.getD s 0 (0 : UInt8))) : Int) = 45) else false)), (7, .nils), (8, .int .i64 ((↑(List.length (List.drop 1 (List.take s.length s))) : Int) - (1 : Int))), (49, .undef), (50, .undef), (51, .undef), (52, .undef)] [])))))) (.side (decide ((↑s.length : Int) = 0) = false → (0 : Int) ≤ 0 ∧ (0 : Int) < s.length) (.ite (bif decide ((↑s.length : Int) = 0) then true else bif decide ((↑(UInt8.toNat (List.getD s 0 (0 : UInt8))) : Int) = 48) then bif decide ((1 : Int) < s.length) then true else bif decide ((0 : Int) < s.length) then decide ((↑(UInt8.toNat (List.getD s 0 (0 : UInt8))) : Int) = 45) else false else false) (.leaf (.ret [.nils, .bool false, .bool false] [])) (.side (inR .i64 ((↑s.length : Int) - (1 : Int))) (.leaf (.loop (Prod.fst (lps K76 0)) (Prod.snd (lps K76 0)) [(5, .str s), (6, .bool (bif decide ((0 : Int) < s.length) then decide ((↑(UInt8.toNat (List.getD s 0 (0 : UInt8))) : Int) = 45) else false)), (7, .nils), (8, .int .i64 ((↑s.length : Int) - (1 : Int))), (49, .undef), (50, .undef), (51, .undef), (52, .undef)] []))))))) (by kernel_rfl) ?_
 have bad : ∀ h, digR s = ([], false, false) → RetR xg 0 Q [.nils, .bool false, .bool false] h := by
  intro h he
  rw [he] at hq
  refine RetR.out0 hq (fun _ => ?_) ?_
  ·simp [resV, new2, new1, new0, zD]
  ·simp [resV, exp2, exp1, exp0, ren0, eqA2, eqL1, eqA, eqA0, natS]
 have core : ∀ neg b, parse s = (neg, b) → (if decide ((b.length : Int) = 0) = true then true else if decide (((b.getD 0 0).toNat : Int) = 48) = true then if decide (1 < (b.length : Int)) = true then true else neg else false) = true → digR s = ([], false, false) := by
  intro neg b hp h
  have : qh neg b = false := by
   by_cases hb : b = []
   ·subst hb; simp [qh]
   ·have hl : ¬ b.length = 0 := by simpa using hb
    rw [if_neg (by simpa using hl)] at h
    split at h
    ·rename_i h48
     have h48 : b.getD 0 0 = 48 := Z4 (of_decide_eq_true h48)
     split at h
     ·rename_i h1; exact xA h48 (by have := of_decide_eq_true h1; omega)
     ·rename_i h1
      subst h
      have : b = [48] := by
       cases b with
       | nil => exact absurd rfl hb
       | cons c b =>
        have hl1 : b = [] := by
         refine List.length_eq_zero_iff.1 ?_
         have : ¬ 1 < (((c :: b).length : Nat) : Int) := fun h => h1 (decide_eq_true h)
         simp only [List.length_cons] at this; omega
        subst hl1
        simp at h48; rw [h48]
      subst this; rfl
    ·cases h
  simp [digR, hp, this]
 have good : ∀ neg b, parse s = (neg, b) → (if decide ((b.length : Int) = 0) = true then true else if decide (((b.getD 0 0).toNat : Int) = 48) = true then if decide (1 < (b.length : Int)) = true then true else neg else false) = false → b ≠ [] ∧ (b.all isD = true → qh neg b = true) := by
  intro neg b hp h
  have hb : b ≠ [] := by rintro rfl; simp at h
  refine ⟨hb, fun hall => ?_⟩
  have hl : ¬ b.length = 0 := by simpa using hb
  rw [if_neg (by simpa using hl)] at h
  simp only [qh, hall, hb, Bool.and_true]
  simp only [decide_false, Bool.not_false, Bool.true_and]
  split at h
  ·rename_i h48
   split at h
   ·cases h
   ·rename_i h1
    subst h
    have : (decide (1 < b.length)) = false := decide_eq_false fun h => h1 (decide_eq_true (by omega))
    simp only [this, Bool.false_and, Bool.and_false, Bool.not_false, Bool.and_self]
  ·rename_i h48
   have e1 : decide (b.getD 0 0 = 48) = false := by
    refine decide_eq_false fun h => h48 ?_
    rw [h]; rfl
   have e2 : decide (b = [48]) = false := by
    refine decide_eq_false fun h => h48 ?_
    rw [h]; rfl
   simp only [e1, e2, Bool.false_and, Bool.and_false, Bool.not_false, Bool.and_self]
 simp only [Tree.holds, zd, inR, lo, hi, Bool.cond_eq_ite]
 refine ⟨fun h => by have := of_decide_eq_true h; omega, fun _ => ⟨fun hneg => ?_, fun hneg => ?_⟩⟩
 ·simp only [hneg]
  obtain ⟨b, rfl⟩ : ∃ b, s = 45 :: b := by
   cases s with
   | nil => simp at hneg
   | cons c b =>
    have : c = 45 := by
     have : ((c.toNat : Nat) : Int) = 45 := by simpa using hneg
     exact Z4 this
    exact ⟨b, by rw [this]⟩
  have hd : List.drop 1 (List.take (45 :: b).length (45 :: b)) = b := by simp
  rw [hd]
  have hp : parse (45 :: b) = (true, b) := rfl
  refine ⟨by simp; omega, fun _ => ⟨fun h => by have := of_decide_eq_false h; omega, fun _ => ⟨fun h => bad _ (core true b hp h), fun h => ⟨by simp at hs; omega, fun _ => ?_⟩⟩⟩⟩
  obtain ⟨g1, g2⟩ := good true b hp h
  refine uP b true (by simp at hs; omega) g1 g2 ?_
  simpa only [digR, hp] using hq
 ·simp only [hneg]
  have hp : parse s = (false, s) := by
   cases s with
   | nil => rfl
   | cons c b =>
    have : c ≠ 45 := by
     rintro rfl; simp at hneg
    simp [parse, this]
  refine ⟨fun h => by have := of_decide_eq_false h; omega, fun _ => ⟨fun h => bad _ (core false s hp h), fun h => ⟨by omega, fun _ => ?_⟩⟩⟩
  obtain ⟨g1, g2⟩ := good false s hp h
  refine uP s false hs g1 g2 ?_
  simpa only [digR, hp] using hq
end Go.Proofs.Tryz
end

/- The reference's integers: dividing. -/
section
set_option maxRecDepth 100000
open Go Go.Sx Go.Proofs Go.Nov
namespace Go.Proofs.Tryz
attribute [local simp] eqKV eqA eqA0 eqH eqB eqL eqL0
noncomputable def K98 : List Go.Sx.Item := [.code (Tryz.f98.body.getD .skip)]
noncomputable def GR2 : Nat → Option Ctr := fun f => if f = 76 then some (xg) else none
theorem zff : ∀ g c, GR2 g = some c → ze Tryz.prog g c := okIf uE (zn)
def KX : Ctr := ctrP true (fun s : List UInt8 => [.str s]) (fun s => s.length < 2 ^ 40) (fun s r => r = errI s) (fun _ (r : Int) => (.int .i64 r, []))
theorem Yo : ze Tryz.prog 111 KX := by
 refine zh (fn := Tryz.f111) (c := Tryz.f111.body.getD .skip) rfl rfl rfl fun s hs O w0 Q hq => ?_
 replace hq := hq _ rfl
 refine zc.run hmix zff [] 400 (T := .ex (fun (x : List UInt8) => eqL [AV.str s] [AV.str x] ∧ x.length < 1099511627776) fun n => .all (fun (r : List Nat × Bool × Bool) => r = digR n) fun n => .ite (!Prod.snd n.2) (.leaf (.ret [.int .i64 12] [])) (.ite (decide ((1000 : Int) < n.1.length)) (.leaf (.ret [.int .i64 14] [])) (.leaf (.ret [.int .i64 0] [])))) (by kernel_rfl) ?_
 simp only [Tree.holds, zd]
 refine ⟨s, ⟨by simp, hs⟩, ⟨_, rfl⟩, ?_⟩
 rintro _ rfl
 unfold errI at hq
 unfold digR
 cases hf : qh (parse s).1 (parse s).2 with
 | false =>
  rw [hf] at hq
  exact ⟨fun _ => RetR.scal hq rfl (by simp [resV]), fun h => by simp at h⟩
 | true =>
  rw [hf, if_pos rfl] at hq
  refine ⟨fun h => by simp at h, fun _ => ⟨fun h => ?_, fun h => ?_⟩⟩
  ·have h : 1000 < (parse s).2.length := by simp [ux] at h; omega
   rw [if_pos h] at hq
   exact RetR.scal hq rfl (by simp [resV])
  ·have h : ¬ 1000 < (parse s).2.length := by simp [ux] at h; omega
   rw [if_neg h] at hq
   exact RetR.scal hq rfl (by simp [resV])
noncomputable def GR3 : Nat → Option Ctr := fun f => if f = 111 then some (KX) else none
theorem zfv : ∀ g c, GR3 g = some c → ze Tryz.prog g c := okIf Yo (zn)
def ze0 : Ctr := ctrP true (fun p : List UInt8 × List UInt8 => [.str p.1, .str p.2]) (fun p => p.1.length < 2 ^ 40 ∧ p.2.length < 2 ^ 40) (fun p r => r = qM p.1 p.2) (fun _ (r : Int) => (.int .i64 r, []))
theorem zcb : ze Tryz.prog 96 ze0 := by
 refine zh (fn := Tryz.f96) (c := Tryz.f96.body.getD .skip) rfl rfl rfl fun p hp O w0 Q hq => ?_
 obtain ⟨s, t⟩ := p
 obtain ⟨hs, ht⟩ := hp
 replace hq := hq _ rfl
 simp only at hs ht hq
 refine zc.run hmix zfv [] 400 (T := .ex (fun (x : List UInt8) => eqL [AV.str s] [AV.str x] ∧ x.length < 1099511627776) fun n => .all (fun (r : Int) => r = errI n) fun n => .ite (!decide (n = 0)) (.ex (fun (x : List UInt8) => eqL [AV.str s] [AV.str x] ∧ x.length < 1099511627776) fun n => .all (fun (r : Int) => r = errI n) fun n => .leaf (.ret [.int .i64 n] [])) (.ex (fun (x : List UInt8) => eqL [AV.str t] [AV.str x] ∧ x.length < 1099511627776) fun n => .all (fun (r : Int) => r = errI n) fun n => .leaf (.ret [.int .i64 n] []))) (by kernel_rfl) ?_
 simp only [Tree.holds, zd]
 unfold qM at hq
 refine ⟨s, ⟨by simp, hs⟩, ⟨_, rfl⟩, ?_⟩
 rintro _ rfl
 refine ⟨fun h => ?_, fun h => ?_⟩
 ·have h : ¬ errI s = 0 := by simpa using h
  rw [if_neg h] at hq
  refine ⟨s, ⟨by simp, hs⟩, ⟨_, rfl⟩, ?_⟩
  rintro _ rfl
  exact RetR.scal hq rfl (by simp [resV])
 ·have h : errI s = 0 := by simpa using h
  rw [if_pos h] at hq
  refine ⟨t, ⟨by simp, ht⟩, ⟨_, rfl⟩, ?_⟩
  rintro _ rfl
  exact RetR.scal hq rfl (by simp [resV])
noncomputable def GR4 : Nat → Option Ctr := fun f => if f = 113 then some (XG) else if f = 112 then some (Qo) else none
theorem JG : ∀ g c, GR4 g = some c → ze Tryz.prog g c := okIf Y5 (okIf Zi (zn))
def zc2 (p : List Nat × List Nat) (r : List Nat × List Nat) : Prop := r.1.length = p.1.length ∧ Ten.dig r.1 ∧ Ten.val r.1 = Ten.val p.1 / Ten.val p.2 ∧ r.2.length ≤ p.1.length ∧ Ten.dig r.2 ∧ Ten.val r.2 = Ten.val p.1 % Ten.val p.2
def Xd : Ctr := ctrP false (fun p : List Nat × List Nat => [nat6 p.1, nat6 p.2]) (fun p => Ten.dig p.1 ∧ Ten.dig p.2 ∧ p.1.length < 2 ^ 38 ∧ p.2.length < 2 ^ 38 ∧ 0 < Ten.val p.2) zc2 (fun _ r => (.tup [nat6 r.1, nat6 r.2], []))
def SRd (l m : List Nat) (n : Nat) : KV := [(0, nat6 l), (1, nat6 m), (6, .int .i64 (n : Int)), (7, .undef), (8, .undef), (9, .undef), (15, .undef), (16, .undef), (17, .undef), (18, .undef), (19, .undef), (20, .undef)]
def qz (i : Nat) (qs : List Nat) : List Nat := List.replicate i 0 ++ qs
def SRo (l m qs r : List Nat) (i : Nat) : KV := [(0, nat6 l), (1, nat6 m), (6, .int .i64 (m.length : Int)), (7, .osl 0 1 0 l.length), (8, nat6 r), (9, .int .i64 ((i : Int) - 1)), (15, .undef), (16, .undef), (17, .undef), (18, .undef), (19, .undef), (20, .undef)]
theorem Uj {k : IntKind} {x n : Nat} {r : List Nat} (hn : n ≤ 1 + r.length) : eqG n 1 (zg (appG 1 (zf 1 [.int k (x : Int)]) (natG k r)) 0) (natG k ((x :: r).take n)) := by
 intro j o hj ho
 have ho : o = 0 := by omega
 subst ho
 simp only [zg, appG, zf, natG, Nat.zero_add]
 rw [Za hj]
 by_cases h : j < 1
 ·have : j = 0 := by omega
  subst this; simp
 ·obtain ⟨i, rfl⟩ : ∃ i, j = i + 1 := ⟨j - 1, by omega⟩
  simp
def SRn (l m r : List Nat) (p : Nat) : KV := [(0, nat6 l), (1, nat6 m), (6, .int .i64 (m.length : Int)), (7, .osl 0 1 0 l.length), (8, nat6 r), (9, .int .i64 (p : Int)), (15, .undef), (16, .undef), (17, .undef), (18, .undef), (19, .undef), (20, .undef)]
theorem K5 {O : Nat → Prop} {w0 : World} {Hs : Nat → KV → Heap → Prop} {R : List AV → Heap → Prop} (l m qs r0 : List Nat) (p V : Nat) (hm : Ten.dig m) (hll : l.length < 2 ^ 38) (hml : m.length < 2 ^ 38) (hm0 : 0 < Ten.val m) (hp : p < l.length)
  (hql : qs.length + (p + 1) = l.length) (hV : V < 10 * Ten.val m) (hrd : Ten.dig r0) (hrl : r0.length ≤ m.length + 1) (hrv : Ten.val r0 = V)
  (hback : ∀ k r, k < 10 → Ten.dig r → r.length = r0.length → Ten.val r < Ten.val m → V = k * Ten.val m + Ten.val r → ∀ kv h, LeK 0 Tryz.f98.ntmps kv h (SRo l m (k :: qs) r p) [.arr l.length 1 (natG .i64 (qz p (k :: qs)))] → Hs 0 kv h)
  (kv : KV) (h : Heap) (hle : LeK 0 Tryz.f98.ntmps kv h (SRn l m r0 p) [.arr l.length 1 (natG .i64 (qz p (0 :: qs)))]) :
  zc Tryz.prog Tryz.f98 O 0 w0 [] Hs R (.code (.loop (lps (inside (inside K98 0) 0) 0).1) :: (lps (inside (inside K98 0) 0) 0).2) (mk Tryz.f98.ntmps kv h) := by
 refine zc.loop (ι := {z : Nat × List Nat // Ten.dig z.2 ∧ z.2.length = r0.length ∧ V = z.1 * Ten.val m + Ten.val z.2}) (fun z => SRn l m z.1.2 p) (fun z => [.arr l.length 1 (natG .i64 (qz p (z.1.1 :: qs)))]) (fun z => Ten.val z.1.2) ⟨(0, r0), hrd, rfl, by simp [hrv]⟩ 1 hle ?_ (by kernel_rfl)
 rintro ⟨⟨k, r⟩, hrd2, hrl2, hv⟩
 simp only at hrd2 hrl2 hv
 have hk : k < 10 := by
  refine Nat.lt_of_not_le fun h => ?_
  have : 10 * Ten.val m ≤ k * Ten.val m := Nat.mul_le_mul_right _ h
  omega
 have hqp : (qz p (k :: qs)).getD p 0 = k := by rw [qz, vK (by simp)]; simp
 have hset : (qz p (k :: qs)).set p (k + 1) = qz p ((k + 1) :: qs) := by
  simp [qz, List.set_append]
 have hqln : (qz p (k :: qs)).length = l.length := by simp [qz]; omega
 obtain ⟨q, hq⟩ : ∃ q, qz p (k :: qs) = q := ⟨_, rfl⟩
 simp only [hq] at hqp hset hqln ⊢
 refine zc.run hmix JG [0, 1, 6, 7, 8, 9, 15, 16, 17, 18, 19, 20] 400 (T := .ex (fun (x : List Nat × List Nat) => eqL [AV.sl r.length 1 (natG .i64 r), AV.sl m.length 1 (natG .i64 m)] [AV.sl x.1.length 1 (natG .i64 x.1), AV.sl x.2.length 1 (natG .i64 x.2)] ∧ Ten.dig x.1 ∧ Ten.dig x.2 ∧ x.1.length < 4611686018427387904 ∧ x.2.length < 4611686018427387904) fun n => .all (fun (r : Int) => r = cmpN (Ten.val n.1) (Ten.val n.2)) fun n => .ite (decide ((0 : Int) ≤ n)) (.ex (fun (x : List Nat × List Nat) => eqL [AV.sl r.length 1 (natG .i64 r), AV.sl m.length 1 (natG .i64 m)] [AV.sl x.1.length 1 (natG .i64 x.1), AV.sl x.2.length 1 (natG .i64 x.2)] ∧ Ten.dig x.1 ∧ Ten.dig x.2 ∧ x.1.length < 1099511627776 ∧ Ten.val x.2 ≤ Ten.val x.1) fun n => .all (fun (r : List Nat) => r.length = n.1.length ∧ Ten.dig r ∧ Ten.val r + Ten.val n.2 = Ten.val n.1) fun n => .side ((0 : Int) ≤ p ∧ (↑p : Int) < l.length) (.side (inR .i64 ((↑(List.getD q (0 + Int.toNat (↑p : Int)) 0) : Int) + (1 : Int))) (.side ((0 : Int) ≤ p ∧ (↑p : Int) < l.length) (.leaf (.back 1 [(0, .sl l.length 1 (natG .i64 l)), (1, .sl m.length 1 (natG .i64 m)), (6, .int .i64 m.length), (7, .osl 0 1 0 l.length), (8, .sl n.length 1 (natG .i64 n)), (9, .int .i64 p), (15, .undef), (16, .undef), (17, .undef), (18, .undef), (19, .undef), (20, .undef)] [.arr l.length 1 (updG (natG .i64 q) (0 + Int.toNat (↑p : Int)) 0 [.int .i64 ((↑(List.getD q (0 + Int.toNat (↑p : Int)) 0) : Int) + (1 : Int))])]))))) (.side (inR .i64 ((↑p : Int) - (1 : Int))) (.leaf (.back 0 [(0, .sl l.length 1 (natG .i64 l)), (1, .sl m.length 1 (natG .i64 m)), (6, .int .i64 m.length), (7, .osl 0 1 0 l.length), (8, .sl r.length 1 (natG .i64 r)), (9, .int .i64 ((↑p : Int) - (1 : Int))), (15, .undef), (16, .undef), (17, .undef), (18, .undef), (19, .undef), (20, .undef)] [.arr l.length 1 (natG .i64 q)])))) (by kernel_rfl) ?_
 simp only [Tree.holds, zd, inR, lo, hi, Int.toNat_natCast]
 refine ⟨(r, m), ⟨by simp [za], hrd2, hm, by simp only; omega, by simp only; omega⟩, ⟨_, rfl⟩, ?_⟩
 rintro _ rfl
 simp only [Nat.zero_add]
 refine ⟨fun hge => ?_, fun hlt => ?_⟩
 ·have hge : Ten.val m ≤ Ten.val r := KT.1 (of_decide_eq_true hge)
  refine ⟨(r, m), ⟨by simp [za], hrd2, hm, by simp only; omega, hge⟩, UQ hrd2 hge, ?_⟩
  rintro r2 ⟨h1, h2, h3⟩
  simp only at h1 h3
  rw [hqp]
  refine ⟨by omega, fun _ => ⟨by omega, fun _ => ⟨by omega, fun _ => ?_⟩⟩⟩
  rw [if_pos trivial]
  refine ⟨⟨(k + 1, r2), h2, h1.trans hrl2, ?_⟩, by show Ten.val r2 < Ten.val r; omega, by simp [SRn, natS, za], ?_, by kernel_rfl, Nat.zero_le _⟩
  ·show V = (k + 1) * Ten.val m + Ten.val r2
   rw [Nat.add_mul, Nat.one_mul]; omega
  ·simp only [← hset]
   have h1 := wz (k := .i64) (l := q) (v := ((k : Int) + 1)) (i := p) (by omega) (by omega)
   have e : ((k : Int) + 1).toNat = k + 1 := by omega
   rw [e, hqln] at h1
   exact ⟨⟨rfl, rfl, h1⟩, trivial⟩
 ·have hlt : Ten.val r < Ten.val m := by
   have := of_decide_eq_false hlt
   rw [KT] at this
   omega
  refine ⟨by omega, fun _ => ?_⟩
  rw [if_neg (by decide)]
  refine hback k r hk hrd2 hrl2 hlt hv _ _ ⟨by simp [SRo, natS, za], ?_, by kernel_rfl, Nat.zero_le _⟩
  rw [hq]
  simp [za]
structure IRo (l m : List Nat) where
 qs : List Nat
 r : List Nat
 i : Nat
 hi : i ≤ l.length
 hql : qs.length + i = l.length
 hqd : Ten.dig qs
 hrd : Ten.dig r
 hrl : r.length ≤ m.length + 1
 hrl2 : r.length + i ≤ l.length
 hlt : Ten.val r < Ten.val m
 hv : Ten.val (l.drop i) = Ten.val qs * Ten.val m + Ten.val r
theorem V4 {O : Nat → Prop} {w0 : World} {Q : AV × Heap → Prop} {Hs : Nat → KV → Heap → Prop} (l m : List Nat) (hl : Ten.dig l) (hm : Ten.dig m) (hll : l.length < 2 ^ 38) (hml : m.length < 2 ^ 38) (hm0 : 0 < Ten.val m) (hmt : Ten.val m < 10 ^ m.length)
  (hq : ∀ r, zc2 (l, m) r → Q (.tup [nat6 r.1, nat6 r.2], [])) (kv : KV) (h : Heap) (hle : LeK 0 Tryz.f98.ntmps kv h (SRo l m [] [] l.length) [.arr l.length 1 (natG .i64 (qz l.length []))]) :
  zc Tryz.prog Tryz.f98 O 0 w0 [] Hs (RetR Xd 0 Q) (.code (.loop (lps (inside K98 0) 0).1) :: (lps (inside K98 0) 0).2) (mk Tryz.f98.ntmps kv h) := by
 refine zc.loop (ι := IRo l m) (fun z => SRo l m z.qs z.r z.i) (fun z => [.arr l.length 1 (natG .i64 (qz z.i z.qs))]) (fun z => z.i) ⟨[], [], l.length, Nat.le_refl _, by simp, by simp [Ten.dig], by simp [Ten.dig], by simp, by simp, by simpa [Ten.val] using hm0, by simp [Ten.val]⟩ 0 hle ?_ (by kernel_rfl)
 rintro ⟨qs, r, i, hil, hql, hqd, hrd, hrl, hrl2, hrv, hv⟩
 obtain ⟨q, hqz⟩ : ∃ q, qz i qs = q := ⟨_, rfl⟩
 simp only [hqz]
 refine zc.run hmix JG [0, 1, 6, 7, 8, 9, 15, 16, 17, 18, 19, 20] 400 (T := .ite (decide ((0 : Int) ≤ i - (1 : Int))) (.side ((0 : Int) ≤ i - (1 : Int) ∧ (↑i : Int) - (1 : Int) < l.length) (.side (0 = 0 ∧ 1 ≤ 1 ∧ (1 + r.length) * 8 ≤ 140737488355328) (.side (inR .i64 ((↑m.length : Int) + (1 : Int))) (.ite (decide ((↑m.length : Int) + (1 : Int) < (↑(1 + r.length) : Int))) (.side (inR .i64 ((↑m.length : Int) + (1 : Int))) (.side ((0 : Int) ≤ m.length + (1 : Int) ∧ (↑m.length : Int) + (1 : Int) ≤ (↑(1 + r.length) : Int)) (.leaf (.loop (Prod.fst (lps (inside (inside K98 0) 0) 0)) (Prod.snd (lps (inside (inside K98 0) 0) 0)) [(0, .sl l.length 1 (natG .i64 l)), (1, .sl m.length 1 (natG .i64 m)), (6, .int .i64 m.length), (7, .osl 0 1 0 l.length), (8, .osl 1 1 0 (Int.toNat ((↑m.length : Int) + (1 : Int)) - 0)), (9, .int .i64 ((↑i : Int) - (1 : Int))), (15, .undef), (16, .undef), (17, .undef), (18, .undef), (19, .undef), (20, .undef)] [.arr l.length 1 (natG .i64 q), .arr (1 + r.length) 1 (appG 1 (zf 1 [.int .i64 (↑(List.getD l (Int.toNat ((↑i : Int) - (1 : Int))) 0) : Int)]) (natG .i64 r))])))) (.leaf (.loop (Prod.fst (lps (inside (inside K98 0) 0) 0)) (Prod.snd (lps (inside (inside K98 0) 0) 0)) [(0, .sl l.length 1 (natG .i64 l)), (1, .sl m.length 1 (natG .i64 m)), (6, .int .i64 m.length), (7, .osl 0 1 0 l.length), (8, .osl 1 1 0 (1 + r.length)), (9, .int .i64 ((↑i : Int) - (1 : Int))), (15, .undef), (16, .undef), (17, .undef), (18, .undef), (19, .undef), (20, .undef)] [.arr l.length 1 (natG .i64 q), .arr (1 + r.length) 1 (appG 1 (zf 1 [.int .i64 (↑(List.getD l (Int.toNat ((↑i : Int) - (1 : Int))) 0) : Int)]) (natG .i64 r))])))))) (.leaf (.ret [.osl 0 1 0 l.length, .sl r.length 1 (natG .i64 r)] [.arr l.length 1 (natG .i64 q)]))) (by kernel_rfl) ?_
 simp only [Tree.holds, zd, inR, lo, hi, Int.toNat_natCast]
 refine ⟨fun hge => ?_, fun hlt => ?_⟩
 ·obtain ⟨p, rfl⟩ : ∃ p, i = p + 1 := ⟨i - 1, by have := of_decide_eq_true hge; omega⟩
  have e : (((p + 1 : Nat) : Int) - 1).toNat = p := by omega
  have e2 : ((p + 1 : Nat) : Int) - 1 = (p : Int) := by omega
  have e3 : ((m.length : Int) + 1).toNat - 0 = m.length + 1 := by omega
  have hx : l.getD p 0 < 10 := Ten.zE hl p
  have hdrop : l.drop p = l.getD p 0 :: l.drop (p + 1) := by
   have h1 : p < l.length := by omega
   rw [List.drop_eq_getElem_cons h1]
   simp [List.getD, h1]
  simp only [e2, e3, Int.toNat_natCast]
  obtain ⟨x, hxe⟩ : ∃ x, l.getD p 0 = x := ⟨_, rfl⟩
  simp only [hxe] at hx hdrop ⊢
  have hVv : Ten.val (x :: r) = x + 10 * Ten.val r := rfl
  have hV : Ten.val (x :: r) < 10 * Ten.val m := by rw [hVv]; omega
  have hpow : 10 ^ (m.length + 1) = 10 ^ m.length * 10 := Nat.pow_succ ..
  have hcut : Ten.val ((x :: r).take (m.length + 1)) = Ten.val (x :: r) := Ut (by rw [hpow]; omega)
  have hdig : Ten.dig ((x :: r).take (m.length + 1)) := Ten.q7 (Ten.qe.2 ⟨hx, hrd⟩) _
  have main : ∀ n, n = ((x :: r).take (m.length + 1)).length → zc Tryz.prog Tryz.f98 O 0 w0 [] (fun d kv h => if d = 0 then ∃ x' : IRo l m, x'.i < p + 1 ∧ LeK 0 Tryz.f98.ntmps kv h (SRo l m x'.qs x'.r x'.i) [.arr l.length 1 (natG .i64 (qz x'.i x'.qs))] else Hs d kv h) (RetR Xd 0 Q)
    (.code (.loop (lps (inside (inside K98 0) 0) 0).1) :: (lps (inside (inside K98 0) 0) 0).2)
    (mk Tryz.f98.ntmps [(0, nat6 l), (1, nat6 m), (6, .int .i64 (m.length : Int)), (7, .osl 0 1 0 l.length), (8, .osl 1 1 0 n), (9, .int .i64 (p : Int)), (15, .undef), (16, .undef), (17, .undef), (18, .undef), (19, .undef), (20, .undef)]
     [.arr l.length 1 (natG .i64 q), .arr (1 + r.length) 1 (appG 1 (zf 1 [.int .i64 (x : Int)]) (natG .i64 r))]) := by
   intro n hn
   refine zc.freeze [1] (by simp) (by kernel_rfl) ?_
   refine K5 l m qs ((x :: r).take (m.length + 1)) p (Ten.val (x :: r)) hm hll hml hm0 (by omega) (by omega) hV hdig (by simp; omega) hcut ?_ _ _ ⟨?_, ?_, by kernel_rfl, Nat.zero_le _⟩
   ·intro k r' hk hd' hl' hlt' hv' kv h hle'
    rw [if_pos rfl]
    rw [List.length_take, List.length_cons] at hl'
    refine ⟨⟨k :: qs, r', p, by omega, by simp; omega, Ten.qe.2 ⟨hk, hqd⟩, hd', by omega, by omega, hlt', ?_⟩, Nat.lt_succ_self p, hle'⟩
    rw [hdrop]
    show x + 10 * Ten.val (l.drop (p + 1)) = (k + 10 * Ten.val qs) * Ten.val m + Ten.val r'
    rw [hv, Nat.add_mul, Nat.mul_assoc]
    rw [hVv] at hv'
    omega
   ·have : WR [1] ([.arr l.length 1 (natG .i64 q), .arr (1 + r.length) 1 (appG 1 (zf 1 [.int .i64 (x : Int)]) (natG .i64 r))]) [(0, nat6 l), (1, nat6 m), (6, .int .i64 (m.length : Int)), (7, .osl 0 1 0 l.length), (8, .osl 1 1 0 n), (9, .int .i64 (p : Int)), (15, .undef), (16, .undef), (17, .undef), (18, .undef), (19, .undef), (20, .undef)] = [(0, nat6 l), (1, nat6 m), (6, .int .i64 (m.length : Int)), (7, .osl 0 1 0 l.length), (8, .sl n 1 (zg (appG 1 (zf 1 [.int .i64 (x : Int)]) (natG .i64 r)) 0)), (9, .int .i64 (p : Int)), (15, .undef), (16, .undef), (17, .undef), (18, .undef), (19, .undef), (20, .undef)] := rfl
    rw [this]
    have hg := Uj (k := .i64) (x := x) (r := r) (n := n) (by rw [hn]; simp; omega)
    have h2 : (x :: r).take n = (x :: r).take (m.length + 1) := by rw [hn, List.length_take, ← List.take_take, List.take_length]
    rw [h2] at hg
    subst hn
    refine ⟨rfl, by simp [natS, za], rfl, by simp [natS, za], rfl, by simp, rfl, by simp, rfl, ?_, rfl, by simp, by simp⟩
    exact ⟨rfl, rfl, hg⟩
   ·have : vn [1] (zB [1] [.arr l.length 1 (natG .i64 q), .arr (1 + r.length) 1 (appG 1 (zf 1 [.int .i64 (x : Int)]) (natG .i64 r))]) = [.arr l.length 1 (natG .i64 q), .dead] := rfl
    rw [this]
    have hqq : q = qz p (0 :: qs) := by rw [← hqz]; simp [qz, List.replicate_succ']
    rw [← hqq]
    simp [za]
  refine ⟨by omega, fun _ => ⟨⟨trivial, Nat.le_refl _, by omega⟩, fun _ => ⟨by omega, fun _ => ⟨fun hbig => ?_, fun hsm => ?_⟩⟩⟩⟩
  ·have hbig := of_decide_eq_true hbig
   refine ⟨by omega, fun _ => ⟨by omega, fun _ => main _ ?_⟩⟩
   rw [List.length_take, List.length_cons]; omega
  ·have hsm := of_decide_eq_false hsm
   refine main _ ?_
   rw [List.length_take, List.length_cons]; omega
 ·have hi0 : i = 0 := by have := of_decide_eq_false hlt; omega
  subst hi0
  rw [← hqz]
  have hqq : qz 0 qs = qs := by simp [qz]
  rw [hqq]
  have hql2 : l.length = qs.length := by omega
  rw [List.drop_zero] at hv
  have hb : ([.arr l.length 1 (natG .i64 qs)] : Heap)[0]? = some (.arr l.length 1 (natG .i64 qs)) := rfl
  have hd : Ten.val l / Ten.val m = Ten.val qs ∧ Ten.val l % Ten.val m = Ten.val r := by
   rw [hv, Nat.mul_comm, Nat.mul_add_div hm0, Nat.mul_add_mod, Nat.div_eq_of_lt hrv, Nat.mod_eq_of_lt hrv]
   exact ⟨by omega, rfl⟩
  refine RetR.out0 (hq (qs, r) ⟨by simp only; omega, hqd, by simp only [hd.1], by simp only; omega, hrd, by simp only [hd.2]⟩) (fun h => by cases h) ?_
  simp only [resV, exp2, List.map_cons, List.map_nil, exp1]
  rw [q9 hb (by omega), Ub]
  simp [eqA2, eqL1, eqA, eqA0, natS, za, exp0, ren0, hql2]
theorem zdd : ze Tryz.prog 98 Xd := by
 refine zh (fn := Tryz.f98) (c := Tryz.f98.body.getD .skip) rfl rfl rfl fun p hp O w0 Q hq => ?_
 obtain ⟨l, m⟩ := p
 obtain ⟨hl, hm, hll, hml, hm0⟩ := hp
 simp only at hq hl hm hll hml hm0
 refine zc.run hmix JG [0, 1, 6, 7, 8, 9, 15, 16, 17, 18, 19, 20] 400 (T := .leaf (.loop (Prod.fst (lps K98 0)) (Prod.snd (lps K98 0)) [(0, .sl l.length 1 (natG .i64 l)), (1, .sl m.length 1 (natG .i64 m)), (6, .int .i64 m.length), (7, .undef), (8, .undef), (9, .undef), (15, .undef), (16, .undef), (17, .undef), (18, .undef), (19, .undef), (20, .undef)] [])) (by kernel_rfl) ?_
 simp only [Tree.holds, zd]
 refine zc.loop (ι := {n : Nat // n ≤ m.length ∧ Ten.tlen m ≤ n}) (fun n => SRd l m n.1) (fun _ => []) (fun n => n.1) ⟨m.length, Nat.le_refl _, Ten.qg m⟩ 0 ?_ ?_ (by kernel_rfl)
 ·exact ⟨by simp [SRd, natS, za], by simp, by kernel_rfl, Nat.zero_le _⟩
 ·rintro ⟨n, hn, ht⟩
  refine zc.run hmix JG [0, 1, 6, 7, 8, 9, 15, 16, 17, 18, 19, 20] 400 (T := .side (decide ((1 : Int) < n) = true → inR .i64 ((↑n : Int) - (1 : Int))) (.side (decide ((1 : Int) < n) = true → (0 : Int) ≤ n - (1 : Int) ∧ (↑n : Int) - (1 : Int) < m.length) (.ite (bif decide ((1 : Int) < n) then decide ((↑(List.getD m (Int.toNat ((↑n : Int) - (1 : Int))) 0) : Int) = 0) else false) (.side (inR .i64 ((↑n : Int) - (1 : Int))) (.leaf (.back 0 [(0, .sl l.length 1 (natG .i64 l)), (1, .sl m.length 1 (natG .i64 m)), (6, .int .i64 ((↑n : Int) - (1 : Int))), (7, .undef), (8, .undef), (9, .undef), (15, .undef), (16, .undef), (17, .undef), (18, .undef), (19, .undef), (20, .undef)] []))) (.side ((0 : Int) ≤ n ∧ (↑n : Int) ≤ m.length) (.side ((0 : Int) ≤ l.length ∧ (↑l.length : Int) ≤ l.length ∧ inR .i64 (↑l.length : Int) ∧ Int.toNat (↑l.length : Int) * 8 ≤ 140737488355328) (.side (inR .i64 ((↑l.length : Int) - (1 : Int))) (.leaf (.loop (Prod.fst (lps (inside K98 0) 0)) (Prod.snd (lps (inside K98 0) 0)) [(0, .sl l.length 1 (natG .i64 l)), (1, .sl (Int.toNat (↑n : Int) - 0) 1 (zg (natG .i64 m) 0)), (6, .int .i64 n), (7, .osl 0 1 0 (Int.toNat (↑l.length : Int))), (8, .nils), (9, .int .i64 ((↑l.length : Int) - (1 : Int))), (15, .undef), (16, .undef), (17, .undef), (18, .undef), (19, .undef), (20, .undef)] [.arr (Int.toNat (↑l.length : Int)) 1 (kP [.int .i64 0])])))))))) (by kernel_rfl) ?_
  simp only [Tree.holds, zd, inR, lo, hi, Int.toNat_natCast]
  refine ⟨by omega, fun _ => ⟨fun h => by have := of_decide_eq_true h; omega, fun _ => ⟨fun hz => ?_, fun hz => ?_⟩⟩⟩
  ·have hn1 : 1 < n := by
    rcases Nat.lt_or_ge 1 n with h | h
    ·exact h
    ·rw [decide_eq_false (by omega)] at hz; cases hz
   have e : ((n : Int) - 1).toNat = n - 1 := by omega
   have hz : m.getD (n - 1) 0 = 0 := by
    rw [decide_eq_true (by omega), e] at hz
    have := of_decide_eq_true hz
    omega
   refine ⟨by omega, fun _ => ?_⟩
   rw [if_pos trivial]
   refine ⟨⟨n - 1, by omega, ?_⟩, by show n - 1 < n; omega, by simp [SRd, natS, za]; omega, by simp, by kernel_rfl, Nat.zero_le _⟩
   refine Nat.le_of_not_lt fun hlt => ?_
   have hnt : n = Ten.tlen m := by omega
   subst hnt
   exact Ten.qa m (by omega) hz
  ·refine ⟨by omega, fun _ => ⟨by omega, fun _ => ⟨by omega, fun _ => ?_⟩⟩⟩
   have hlen : (m.take n).length = n := by rw [List.length_take]; omega
   have hd : Ten.dig (m.take n) := Ten.q7 hm n
   have hval : Ten.val (m.take n) = Ten.val m := by
    refine ZA hd hm fun j => ?_
    rcases Nat.lt_or_ge j n with h | h
    ·exact Za h
    ·rw [we (by omega), Ten.qU m j (by omega)]
   refine V4 l (m.take n) hl hd hll (by omega) (by omega) (Ten.zM hd) ?_ _ _ ⟨?_, ?_, by kernel_rfl, Nat.zero_le _⟩
   ·intro r hr
    refine hq r ?_
    simp only [zc2, hval] at hr ⊢
    exact hr
   ·refine ⟨rfl, by simp [natS, za], rfl, ?_, by simp [hlen, natS]⟩
    refine ⟨by rw [hlen]; rfl, rfl, ?_⟩
    intro j o hj ho
    have ho : o = 0 := by omega
    subst ho
    simp only [zg, natG, Nat.zero_add]
    rw [Za (by omega)]
   ·refine ⟨⟨rfl, rfl, ?_⟩, trivial⟩
    intro j o hj ho
    have ho : o = 0 := by omega
    subst ho
    simp only [kP, natG, qz, List.append_nil]
    rw [ZY hj]; rfl
end Go.Proofs.Tryz
end

/- The reference's integers: the greatest common divisor. -/
section
set_option maxRecDepth 100000
open Go Go.Sx Go.Proofs Go.Nov
namespace Go.Proofs.Tryz
attribute [local simp] eqKV eqA eqA0 eqH eqB eqL eqL0
noncomputable def K78 : List Go.Sx.Item := [.code (Tryz.f78.body.getD .skip)]
def big : Nat := 1000
theorem X4 {s : List UInt8} (h : errI s = 0) : numI s < 10 ^ big := by
 obtain ⟨_, h1, _, h2⟩ := ZM h
 exact Nat.lt_of_lt_of_le (yB h1) (Nat.pow_le_pow_right (by decide) h2)
theorem zg1 {x y : Nat} (hx : x < 10 ^ big) (hy : y < 10 ^ big) : wr false (Nat.gcd x y) = (xt false (Nat.gcd x y), 0) := by
 have h : Nat.gcd x y < 10 ^ big := by
  rcases Nat.eq_zero_or_pos x with h | h
  ·subst h; rw [Nat.gcd_zero_left]; exact hy
  ·exact Nat.lt_of_le_of_lt (Nat.le_of_dvd h (Nat.gcd_dvd_left x y)) hx
 have h2 := Zo h
 have hb : big = 1000 := rfl
 unfold wr xt
 split
 ·rfl
 ·rw [if_neg (by omega)]
theorem Xi {s : List UInt8} (h : errI s = 0) : digR s = (dg (parse s).2, (parse s).1, true) ∧ Ten.dig (dg (parse s).2) ∧ (dg (parse s).2).length ≤ 1000 ∧ Ten.val (dg (parse s).2) = numI s := by
 obtain ⟨neg, b, h1, h2, h3, h4, h5, h6⟩ := Xb h
 refine ⟨?_, ?_, ?_, U3 _⟩
 ·simp only [digR, h2, h3, if_true]
 ·simp only [h2]; exact zfe h4
 ·simp only [h2, ux]; exact h6
def zef : Ctr := ctrP true (fun p : List UInt8 × List UInt8 => [.str p.1, .str p.2]) (fun p => p.1.length < 2 ^ 40 ∧ p.2.length < 2 ^ 40) (fun p r => r = gcdR p.1 p.2) (fun _ r => (.tup [.str r.1, .int .i64 r.2], []))
def SRg (x y : List Nat) : KV := [(7, nat6 x), (10, nat6 y)]
noncomputable def GR5 : Nat → Option Ctr := fun f => if f = 96 then some (ze0) else if f = 76 then some (xg) else if f = 98 then some (Xd) else if f = 97 then some (zek) else if f = 99 then some (K3) else none
theorem zc4 : ∀ g c, GR5 g = some c → ze Tryz.prog g c := okIf zcb (okIf uE (okIf zdd (okIf zcj (okIf UA (zn)))))
theorem zch : ze Tryz.prog 78 zef := by
 refine zh (fn := Tryz.f78) (c := Tryz.f78.body.getD .skip) rfl rfl rfl fun p hp O w0 Q hq => ?_
 obtain ⟨s, t⟩ := p
 obtain ⟨hs, ht⟩ := hp
 replace hq := hq _ rfl
 simp only at hs ht hq
 refine zc.run hmix zc4 [7, 10] 400 (T := .ex (fun (x : List UInt8 × List UInt8) => eqL [AV.str s, AV.str t] [AV.str x.1, AV.str x.2] ∧ x.1.length < 1099511627776 ∧ x.2.length < 1099511627776) fun n => .all (fun (r : Int) => r = qM n.1 n.2) fun n => .ite (!decide (n = 0)) (.leaf (.ret [.str (Array.toList #[]), .int .i64 n] [])) (.ex (fun (x : List UInt8) => eqL [AV.str s] [AV.str x] ∧ x.length < 1099511627776) fun n => .all (fun (r : List Nat × Bool × Bool) => r = digR n) fun n => .ex (fun (x : List UInt8) => eqL [AV.str t] [AV.str x] ∧ x.length < 1099511627776) fun n_1 => .all (fun (r : List Nat × Bool × Bool) => r = digR n_1) fun n_2 => .leaf (.loop (Prod.fst (lps K78 0)) (Prod.snd (lps K78 0)) [(7, .sl n.1.length 1 (natG .i64 n.1)), (10, .sl n_2.1.length 1 (natG .i64 n_2.1))] []))) (by kernel_rfl) ?_
 simp only [Tree.holds, zd]
 refine ⟨(s, t), ⟨by simp, hs, ht⟩, ⟨_, rfl⟩, ?_⟩
 rintro _ rfl
 simp only
 refine ⟨fun he => ?_, fun he => ?_⟩
 ·have he : qM s t ≠ 0 := by
   intro h; simp [h] at he
  have e : gcdR s t = ([], qM s t) := by simp [gcdR, he]
  rw [e] at hq
  exact RetR.scal hq rfl (by simp [resV])
 ·have he : qM s t = 0 := by
   refine Decidable.byContradiction fun h => ?_
   simp [h] at he
  obtain ⟨h1, h2⟩ := xR.1 he
  have e : gcdR s t = (xt false (Nat.gcd (numI s) (numI t)), 0) := by
   rw [gcdR, if_pos he]; exact zg1 (X4 h1) (X4 h2)
  rw [e] at hq
  refine ⟨s, ⟨by simp, hs⟩, ⟨_, rfl⟩, ?_⟩
  rintro _ rfl
  refine ⟨t, ⟨by simp, ht⟩, ⟨_, rfl⟩, ?_⟩
  rintro _ rfl
  obtain ⟨a1, a2, a3, a4⟩ := Xi h1
  obtain ⟨b1, b2, b3, b4⟩ := Xi h2
  rw [a1, b1]
  simp only
  rw [← a4, ← b4] at hq
  generalize dg (parse s).2 = x0 at *
  generalize dg (parse t).2 = y0 at *
  clear a1 b1 e he h1 h2 hs ht a4 b4
  refine zc.loop (ι := {z : List Nat × List Nat // Nat.gcd (Ten.val z.1) (Ten.val z.2) = Nat.gcd (Ten.val x0) (Ten.val y0) ∧ Ten.dig z.1 ∧ Ten.dig z.2 ∧ z.1.length ≤ 1000 ∧ z.2.length ≤ 1000}) (fun z => SRg z.1.1 z.1.2) (fun _ => []) (fun z => Ten.val z.1.2) ⟨(x0, y0), rfl, a2, b2, a3, b3⟩ 0 ?_ ?_ (by kernel_rfl)
  ·exact ⟨by simp [SRg, natS, za], by simp, by kernel_rfl, Nat.zero_le _⟩
  ·rintro ⟨⟨x, y⟩, hg, hx, hy, hxl, hyl⟩
   simp only at hg hx hy hxl hyl
   refine zc.run hmix zc4 [7, 10] 400 (T := .ex (fun (x : List Nat) => eqL [AV.sl y.length 1 (natG .i64 y)] [AV.sl x.length 1 (natG .i64 x)] ∧ Ten.dig x ∧ x.length < 4611686018427387904) fun n => .all (fun (r : Bool) => r = decide (Ten.val n = 0)) fun n => .ite (!n) (.ex (fun (x_1 : List Nat × List Nat) => eqL [AV.sl x.length 1 (natG .i64 x), AV.sl y.length 1 (natG .i64 y)] [AV.sl x_1.1.length 1 (natG .i64 x_1.1), AV.sl x_1.2.length 1 (natG .i64 x_1.2)] ∧ Ten.dig x_1.1 ∧ Ten.dig x_1.2 ∧ x_1.1.length < 274877906944 ∧ x_1.2.length < 274877906944 ∧ 0 < Ten.val x_1.2) fun n => .all (fun (r : List Nat × List Nat) => r.1.length = n.1.length ∧ Ten.dig r.1 ∧ Ten.val r.1 = Ten.val n.1 / Ten.val n.2 ∧ r.2.length ≤ n.1.length ∧ Ten.dig r.2 ∧ Ten.val r.2 = Ten.val n.1 % Ten.val n.2) fun n => .leaf (.back 0 [(7, .sl y.length 1 (natG .i64 y)), (10, .sl n.2.length 1 (natG .i64 n.2))] [])) (.ex (fun (x_1 : List Nat × Bool) => eqL [AV.sl x.length 1 (natG .i64 x), AV.bool false] [AV.sl x_1.1.length 1 (natG .i64 x_1.1), AV.bool x_1.2] ∧ Ten.dig x_1.1 ∧ x_1.1.length < 1099511627776) fun n => .all (fun (r : List UInt8) => r = xt n.2 (Ten.val n.1)) fun n => .leaf (.ret [.str n, .int .i64 0] []))) (by kernel_rfl) ?_
   simp only [Tree.holds, zd, inR, lo, hi]
   refine ⟨y, ⟨by simp [za], hy, by omega⟩, ⟨_, rfl⟩, ?_⟩
   rintro _ rfl
   refine ⟨fun h0 => ?_, fun h0 => ?_⟩
   ·have hy0 : 0 < Ten.val y := by
     rcases Nat.eq_zero_or_pos (Ten.val y) with h | h
     ·rw [h] at h0; simp at h0
     ·exact h
    refine ⟨(x, y), ⟨by simp [za], hx, hy, by simp only; omega, by simp only; omega, hy0⟩, ?_, ?_⟩
    ·obtain ⟨g1, g2, g3⟩ := XA hx (Nat.div_le_self (Ten.val x) (Ten.val y))
     obtain ⟨g4, g5, g6⟩ := XA hx (Nat.mod_le (Ten.val x) (Ten.val y))
     exact ⟨(_, _), g1, g2, g3, Nat.le_of_eq g4, g5, g6⟩
    rintro ⟨q, r⟩ ⟨g1, g2, g3, g4, g5, g6⟩
    simp only at g1 g2 g3 g4 g5 g6
    simp only
    rw [if_pos trivial]
    refine ⟨⟨(y, r), ?_, hy, g5, hyl, Nat.le_trans g4 hxl⟩, ?_, by simp [SRg, natS, za], by simp, by kernel_rfl, Nat.zero_le _⟩
    ·show Nat.gcd (Ten.val y) (Ten.val r) = _
     rw [g6, ← hg, Nat.gcd_comm (Ten.val x), Nat.gcd_rec (Ten.val y) (Ten.val x), Nat.gcd_comm]
    ·show Ten.val r < Ten.val y
     rw [g6]; exact Nat.mod_lt _ hy0
   ·have hy0 : Ten.val y = 0 := by
     refine Decidable.byContradiction fun h => ?_
     rw [decide_eq_false h] at h0; simp at h0
    refine ⟨(x, false), ⟨by simp [za], hx, by simp only; omega⟩, ⟨_, rfl⟩, ?_⟩
    rintro _ rfl
    rw [hy0, Nat.gcd_zero_right] at hg
    rw [← hg] at hq
    exact RetR.scal hq rfl (by simp [resV])
end Go.Proofs.Tryz
end

/- The library's search for a byte, and what it means for the contracts. -/
section
namespace Go.Proofs
set_option maxHeartbeats 1000000 in
set_option maxRecDepth 100000 in
theorem Tryz.WU (s : ByteArray) (c : Int) (w : World) :
  Calls Tryz.prog 119 #[.string s, .int .u8 c] w fun e w' => e = .returned (.int .i64 (Lib.indexByte s.data.toList c.toNat.toUInt8)) ∧ w' = w := by
 go_enter Tryz.func119, Tryz.ntmps119
 go_wp2
 rw [run_callFunc_extern Tryz.func124 (by kernel_rfl) (by kernel_rfl) (by kernel_rfl) (e := Extern.BytealgIndexByte.indexByte) (by kernel_rfl), Lib.run_indexByteString]
 simp only [Result.andThen]
 rw [Oper.upon_value]
 go_wp2
 go_ret
 exact ⟨rfl, rfl⟩
set_option maxHeartbeats 2000000 in
set_option maxRecDepth 100000 in
theorem Tryz.Kv (s : ByteArray) (c : UInt8) (w : World) :
  Calls Tryz.prog 114 #[.string s, .string ⟨#[c]⟩] w fun e w' => e = .returned (.int .i64 (Lib.indexByte s.data.toList c)) ∧ w' = w := by
 go_enter Tryz.func114, Tryz.ntmps114
 go_wp2_with (go_at_call 119; refine (Tryz.WU _ _ _).mono ?_; rintro e w' ⟨rfl, rfl⟩)
 ·have h : ([c] == s.toList) = true := by assumption
  go_ret
  refine ⟨?_, rfl⟩
  have e : s.data.toList = [c] := by rw [← Lib.toList_data]; exact (beq_iff_eq.1 h).symm
  rw [e]
  simp [Lib.indexByte]
 ·go_ret
  exact ⟨rfl, rfl⟩
end Go.Proofs
end
