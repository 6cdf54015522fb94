/- Part 3 of the proof. -/
import Derived.Tactics
import Derived.Orders
import Derived.KernelRfl
import Derived.Below
import Derived.Laws.Cells
import Derived.ChangeKeysEq
import Derived.Laws.Strings
import Derived.Laws.BytesString
import Derived.Laws.StructEq
import Derived.Laws.AppendOwn
import Derived.Laws.MakeOwn
import Derived.Deep.AppendSrc
import Derived.MapKept
set_option linter.unusedVariables false
set_option linter.unusedSimpArgs false
set_option linter.unusedSectionVars false

/- The symbolic executor: abstract values, abstract heap, one step of each operation, and the run of a piece of code up to its next loop. -/
section
namespace Go.Sx
universe u
inductive AV where
 | undef
 | bool (b : Bool)
 | int (k : IntKind) (n : Int)
 | str (s : List UInt8)
 | nils
 | sl (n sz : Nat) (get : Nat → Nat → AV)
 | osl (i sz off n : Nat)
 | ptr (i off : Nat)
 | nilp
 | eptr (i sz idx off : Nat)
 | iptr (m : Nat) (get : Nat → AV)
 | gptr (g : Nat)
 | agg (cells : List AV)
 | tup (vs : List AV)
 | fn (f : Nat) (first cap : List AV)
 | nilf
 | opt (t : Nat) (want : Bool) (x : AV)
 | mp (k : IntKind) (ag : Bool) (sz : Nat) (ks : List Int) (has : Int → Bool) (get : Int → Nat → AV)
 | omap (i : Nat)
class Stat where
 z : Nat → Option AV
abbrev Sc := Sum Int (List UInt8)
abbrev SK := Sum IntKind Bool
inductive Blk where
 | dead
 | box (cells : List AV)
 | arr (n sz : Nat) (get : Nat → Nat → AV)
 | map (ag : Bool) (sh : List SK) (has : List Sc → Bool) (get : List Sc → AV) (pe : Option (List Sc × Int) := none)
 | arrI (k : IntKind) (n : Nat) (f : Nat → Int)
 | arrS (n : Nat) (f : Nat → List UInt8)
inductive Tree (α : Type) where
 | leaf (a : α)
 | ite (b : Bool) (t e : Tree α)
 | side (p : Prop) (t : Tree α)
 | ex {X : Type} (p : X → Prop) (k : X → Tree α)
 | all {X : Type} (p : X → Prop) (k : X → Tree α)
 | fail
namespace Tree
def bind {α β : Type} : Tree α → (α → Tree β) → Tree β
 | .leaf a, f => f a
 | .ite b t e, f => .ite b (t.bind f) (e.bind f)
 | .side p t, f => .side p (t.bind f)
 | .ex p k, f => .ex p fun n => (k n).bind f
 | .all p k, f => .all p fun n => (k n).bind f
 | .fail, _ => .fail
def holds {α : Type} : Tree α → (α → Prop) → Prop
 | .leaf a, Q => Q a
 | .ite b t e, Q => (b = true → t.holds Q) ∧ (b = false → e.holds Q)
 | .side p t, Q => p ∧ (p → t.holds Q)
 | .ex p k, Q => ∃ n, p n ∧ (k n).holds Q
 | .all p k, Q => (∃ n, p n) ∧ ∀ n, p n → (k n).holds Q
 | .fail, _ => False
def map {α β : Type} (f : α → β) (t : Tree α) : Tree β := t.bind fun a => .leaf (f a)
def chain {α : Type} : Tree α → Option (List Prop × α)
 | .leaf a => some ([], a)
 | .side p t => match t.chain with
  | some (ps, a) => some (p :: ps, a)
  | none => none
 | _ => none
end Tree
abbrev Heap := List Blk
abbrev Spec := List AV → Heap → Tree (AV × Heap)
structure Ctr where
 fresh : Bool
 spec : Spec
 wv : Bool := false
 pins : Nat := 0
structure St where
 tmps : List AV
 heap : Heap
def lo : IntKind → Int
 | .i8 => -128 | .i16 => -32768 | .i32 => -2147483648 | .i64 => -9223372036854775808
 | _ => 0
def hi : IntKind → Int
 | .i8 => 127 | .i16 => 32767 | .i32 => 2147483647 | .i64 => 9223372036854775807
 | .u8 => 255 | .u16 => 65535 | .u32 => 4294967295 | .u64 => 18446744073709551615
def inR (k : IntKind) (n : Int) : Prop := lo k ≤ n ∧ n ≤ hi k
def zg (g : Nat → Nat → AV) (l : Nat) : Nat → Nat → AV := fun j o => g (l + j) o
def eltG (g : Nat → Nat → AV) (i : Nat) : Nat → AV := fun o => g i o
def atG (g : Nat → AV) (d : Nat) : Nat → AV := fun o => g (d + o)
def updG (g : Nat → Nat → AV) (i d : Nat) (cs : List AV) : Nat → Nat → AV := fun j o => if j = i ∧ d ≤ o ∧ o < d + cs.length then cs.getD (o - d) .undef else g j o
def tgI (k : IntKind) (f : Nat → Int) : Nat → Nat → AV := fun j _ => .int k (f j)
def tgS (f : Nat → List UInt8) : Nat → Nat → AV := fun j _ => .str (f j)
def updI (f : Nat → Int) (i : Nat) (v : Int) : Nat → Int := fun j => if j = i then v else f j
def updS (f : Nat → List UInt8) (i : Nat) (v : List UInt8) : Nat → List UInt8 := fun j => if j = i then v else f j
def appG (n : Nat) (g g' : Nat → Nat → AV) : Nat → Nat → AV := fun j o => if j < n then g j o else g' (j - n) o
def zf (sz : Nat) (cs : List AV) : Nat → Nat → AV := fun j o => cs.getD (j * sz + o) .undef
def kP (cs : List AV) : Nat → Nat → AV := fun _ o => cs.getD o .undef
def byteOf : AV → UInt8
 | .int _ n => UInt8.ofNat n.toNat
 | _ => 0
def vI (n : Nat) (g : Nat → Nat → AV) : List UInt8 := (List.range n).map fun j => byteOf (g j 0)
def ua : Value → AV
 | .bool b => .bool b
 | .int k n => .int k n
 | .string s => .str s.data.toList
 | .slice none 0 0 => .nils
 | .pointer none => .nilp
 | .nilFunc => .nilf
 | _ => .undef
def xq : Value → AV
 | .agg cs => .agg (cs.toList.map ua)
 | v => ua v
def cellsOf : AV → Option (List AV)
 | .agg cs => some cs
 | .undef => none
 | .opt _ _ _ => none
 | v => some [v]
def oneA : AV → Bool
 | .undef => false
 | .agg _ => false
 | .tup _ => false
 | .opt _ _ _ => false
 | _ => true
def qK (i : Nat) : AV → AV
 | .osl j sz off n => if i = j then .undef else .osl j sz off n
 | .eptr j sz idx off => if i = j then .undef else .eptr j sz idx off
 | .ptr j off => if i = j then .undef else .ptr j off
 | .omap j => if i = j then .undef else .omap j
 | .agg _ => .undef
 | .tup _ => .undef
 | .fn f a b => match a, b with
  | [], [] => .fn f [] []
  | _, _ => .undef
 | .opt _ _ _ => .undef
 | x => x
def zT (i : Nat) : AV → AV
 | .agg cs => .agg (cs.map (qK i))
 | .tup cs => .tup (cs.map (qK i))
 | x => qK i x
def zen (i : Nat) : Blk → Blk
 | .box cs => .box (cs.map (zT i))
 | b => b
structure Res where
 val : AV
 eff : List (Nat × Blk) := []
 kill : List Nat := []
def zU (h : Heap) (l : Nat) (b : Blk) : Heap := if l < h.length then h.set l b else h ++ [b]
def zm (h : Heap) : List (Nat × Blk) → Heap
 | [] => h
 | (l, b) :: r => zm (zU h l b) r
def setAt (cs : List AV) (off : Nat) (new : List AV) : List AV := cs.take off ++ new ++ cs.drop (off + new.length)
section
variable (P : Program) (Γ : Nat → Option Ctr)
def zeroCells (t : TypeId) : Option (List AV) := match P.info? t with
 | some i => match i.zero with
  | some v => cellsOf (xq v)
  | none => none
 | none => none
def jo (t : TypeId) : Option Bool := match P.underlying t with
 | some (.struct _) | some (.array _ _) => some true
 | some _ => some false
 | none => none
def zW (t : TypeId) : Option Nat := (P.info? t).map (·.size)
def jV (agg : Bool) (cs : List AV) : Tree AV := if agg then .leaf (.agg cs) else match cs with
 | [c] => .leaf c
 | _ => .fail
def uM (h : Heap) (t : TypeId) : AV → Tree AV
 | .ptr i off => match h[i]?, jo P t, zW P t with
  | some (.box cells), some a, some n => if off + n ≤ cells.length then jV a ((cells.drop off).take n) else .fail
  | _, _, _ => .fail
 | .eptr i sz idx off => match h[i]?, jo P t, zW P t with
  | some (.arr _ sz' g), some a, some n => if sz = sz' ∧ off + n ≤ sz then jV a ((List.range n).map fun o => g idx (off + o)) else .fail
  | some (.arrI k _ f), some false, some 1 => if sz = 1 ∧ off = 0 then .leaf (.int k (f idx)) else .fail
  | some (.arrS _ f), some false, some 1 => if sz = 1 ∧ off = 0 then .leaf (.str (f idx)) else .fail
  | some (.box cells), some a, some n => if idx * sz + off + n ≤ cells.length then jV a ((cells.drop (idx * sz + off)).take n) else .fail
  | _, _, _ => .fail
 | .iptr m g => match jo P t, zW P t with
  | some a, some n => if n ≤ m then jV a ((List.range n).map g) else .fail
  | _, _ => .fail
 | _ => .fail
def qw (h : Heap) : AV → Option (Nat × Nat × (Nat → Nat → AV))
 | .nils => some (0, 0, fun _ _ => .undef)
 | .sl n sz g => some (n, sz, g)
 | .osl i sz off n => match h[i]? with
  | some (.arr _ sz' g) => if sz = sz' then some (n, sz, zg g off) else none
  | some (.arrI k _ f) => if sz = 1 then some (n, sz, zg (tgI k f) off) else none
  | some (.arrS _ f) => if sz = 1 then some (n, sz, zg (tgS f) off) else none
  | _ => none
 | _ => none
def kR (s : TypeId) (f : Nat) : Option (Nat × TypeId × Nat) := match P.underlying s with
 | some (.struct fields) => match fields[f]? with
  | some fld => match P.info? fld.type with
   | some i => if i.size = 0 then none else some (fld.offset, fld.type, i.size)
   | none => none
  | none => none
 | _ => none
def Xc (d : Nat) : AV → Tree AV
 | .ptr i off => .leaf (.ptr i (off + d))
 | .eptr i sz idx off => .leaf (.eptr i sz idx (off + d))
 | .iptr m g => if d ≤ m then .leaf (.iptr (m - d) (atG g d)) else .fail
 | _ => .fail
def Vw (op : BinOp) (k : IntKind) (x y : Int) : Tree AV := match op with
 | .add => .side (inR k (x + y)) (.leaf (.int k (x + y)))
 | .sub => .side (inR k (x - y)) (.leaf (.int k (x - y)))
 | .mul => .side (inR k (x * y)) (.leaf (.int k (x * y)))
 | .quo => .side (y ≠ 0 ∧ inR k (x.tdiv y)) (.leaf (.int k (x.tdiv y)))
 | .rem => .side (y ≠ 0) (.leaf (.int k (x.tmod y)))
 | .eql => .leaf (.bool (decide (x = y)))
 | .neq => .leaf (.bool (!decide (x = y)))
 | .lss => .leaf (.bool (decide (x < y)))
 | .leq => .leaf (.bool (decide (x ≤ y)))
 | .gtr => .leaf (.bool (decide (y < x)))
 | .geq => .leaf (.bool (decide (y ≤ x)))
 | _ => .fail
def V9 (op : BinOp) (x y : List UInt8) : Tree AV := match op with
 | .add => .side (x.length + y.length ≤ 9223372036854775807) (.leaf (.str (x ++ y)))
 | .eql => .leaf (.bool (decide (x = y)))
 | .neq => .leaf (.bool (!decide (x = y)))
 | .lss => .leaf (.bool (Op.bytesLess x y))
 | .leq => .leaf (.bool (Op.bytesLess x y || decide (x = y)))
 | .gtr => .leaf (.bool (!(Op.bytesLess x y || decide (x = y))))
 | .geq => .leaf (.bool (!Op.bytesLess x y))
 | _ => .fail
def jy (as bs : List AV) : List Field → Option Bool
 | [] => some true
 | f :: fs => if f.name ≠ "_" then match jo P f.type, P.underlying f.type, as[f.offset]?, bs[f.offset]? with
   | some false, some (.int _), some (.int k x), some (.int k' y) => if k = k' then match jy as bs fs with
     | some r => some (decide (x = y) && r)
     | none => none
    else none
   | some false, some .string, some (.str x), some (.str y) => match jy as bs fs with
    | some r => some (decide (x = y) && r)
    | none => none
   | some false, some .bool, some (.bool x), some (.bool y) => match jy as bs fs with
    | some r => some ((x == y) && r)
    | none => none
   | _, _, _, _ => none
  else jy as bs fs
def uY (op : BinOp) (t : TypeId) (n : Nat) : Tree AV := match P.underlying t with
 | some (.slice _) => match op with
  | .eql => .all (fun b : Bool => 0 < n → b = false) fun b => .leaf (.bool b)
  | .neq => .all (fun b : Bool => 0 < n → b = true) fun b => .leaf (.bool b)
  | _ => .fail
 | _ => .fail
def binX (op : BinOp) (t : TypeId) : AV → AV → Tree AV
 | .sl n _ _, .nils => uY P op t n
 | .osl _ _ _ n, .nils => uY P op t n
 | .int k x, .int k' y => if k = k' then Vw op k x y else .fail
 | .str x, .str y => V9 op x y
 | .bool x, .bool y => match P.underlying t, op with
  | some .bool, .eql => .leaf (.bool (x == y))
  | some .bool, .neq => .leaf (.bool (!(x == y)))
  | _, _ => .fail
 | .agg as, .agg bs => match P.underlying t with
  | some (.struct fs) => if P.stoodInHeld t = false ∧ P.eqGuardType P.depth t = false then match jy P as bs fs.toList with
    | some r => match op with
     | .eql => .leaf (.bool r)
     | .neq => .leaf (.bool (!r))
     | _ => .fail
    | none => .fail
   else .fail
  | _ => .fail
 | _, _ => .fail
def yq (n : Nat) : Option AV → Option AV → Tree (Nat × Nat)
 | none, none => .leaf (0, n)
 | some (.int _ l), none => .side (0 ≤ l ∧ l ≤ n) (.leaf (l.toNat, n))
 | none, some (.int _ h) => .side (0 ≤ h ∧ h ≤ n) (.leaf (0, h.toNat))
 | some (.int _ l), some (.int _ h) => .side (0 ≤ l ∧ l ≤ h ∧ h ≤ n) (.leaf (l.toNat, h.toNat))
 | _, _ => .fail
def yW (t : TypeId) (l h : Option AV) : AV → Tree AV
 | .str s => match P.underlying t with
  | some .string => (yq s.length l h).bind fun (l, h) => .leaf (.str ((s.take h).drop l))
  | _ => .fail
 | .nils => match P.underlying t with
  | some (.slice e) => if (zW P e).isSome then (yq 0 l h).bind fun _ => .leaf .nils else .fail
  | _ => .fail
 | .sl n sz g => match P.underlying t with
  | some (.slice e) => if zW P e = some sz then (yq n l h).bind fun (l, h) => .leaf (.sl (h - l) sz (zg g l)) else .fail
  | _ => .fail
 | .osl i sz off n => match P.underlying t with
  | some (.slice e) => if zW P e = some sz then (yq n l h).bind fun (l, h) => .leaf (.osl i sz (off + l) (h - l)) else .fail
  | _ => .fail
 | _ => .fail
def lenX (t : TypeId) : AV → Tree AV
 | .str s => match P.underlying t with
  | some .string => .leaf (.int .i64 s.length)
  | _ => .fail
 | .nils => match P.underlying t with
  | some (.slice _) => .leaf (.int .i64 0)
  | _ => .fail
 | .sl n _ _ => match P.underlying t with
  | some (.slice _) => .leaf (.int .i64 n)
  | _ => .fail
 | .osl _ _ _ n => match P.underlying t with
  | some (.slice _) => .leaf (.int .i64 n)
  | _ => .fail
 | _ => .fail
def wP (place : Nat → Option (Nat × Nat)) (cells : List AV) : List (Nat × AV) → Option (List AV)
 | [] => some cells
 | (i, v) :: rest => match place i with
  | none => none
  | some (off, size) => match cellsOf v with
   | some cv => if cv.length = size ∧ off + size ≤ cells.length then wP place (setAt cells off cv) rest else none
   | none => none
def nilX : AV → Tree AV
 | .ptr i o => .leaf (.ptr i o)
 | .iptr m g => .leaf (.iptr m g)
 | .eptr i sz idx o => .leaf (.eptr i sz idx o)
 | .fn f a b => .leaf (.fn f a b)
 | _ => .fail
def unX (op : UnOp) : AV → Tree AV
 | .bool b => match op with
  | .not => .leaf (.bool (!b))
  | _ => .fail
 | .int k n => match op with
  | .neg => .side (inR k (-n)) (.leaf (.int k (-n)))
  | _ => .fail
 | _ => .fail
def Vh (h : Heap) (src t : TypeId) : AV → Tree AV
 | .int _ n => match P.underlying src, P.underlying t with
  | some (.int _), some (.int k) => .side (inR k n) (.leaf (.int k n))
  | _, _ => .fail
 | .str s => match P.underlying src, P.underlying t with
  | some .string, some .string => .leaf (.str s)
  | _, _ => .fail
 | v => match P.underlying src, P.underlying t with
  | some (.slice e), some .string => match P.underlying e, qw h v with
   | some (.int .u8), some (n, 1, g) => .side (∀ j, j < n → ∃ b : UInt8, g j 0 = .int .u8 b.toNat) (.leaf (.str (vI n g)))
   | _, _ => .fail
  | _, _ => .fail
def kN (t : TypeId) (i : AV) : AV → Tree AV
 | .sl n sz g => match P.underlying t, i with
  | some (.slice e), .int _ i => if zW P e = some sz then .side (0 ≤ i ∧ i < n) (.leaf (.iptr sz (eltG g i.toNat))) else .fail
  | _, _ => .fail
 | .osl b sz off n => match P.underlying t, i with
  | some (.slice e), .int _ i => if zW P e = some sz then .side (0 ≤ i ∧ i < n) (.leaf (.eptr b sz (off + i.toNat) 0)) else .fail
  | _, _ => .fail
 | .ptr b off => match P.underlying t, i with
  | some (.array len e), .int _ i => match zW P e with
   | some sz => .side (0 ≤ i ∧ i < len) (.leaf (.ptr b (off + i.toNat * sz)))
   | none => .fail
  | _, _ => .fail
 | _ => .fail
def Wc (t : TypeId) (i : AV) : AV → Tree AV
 | .str s => match P.underlying t, i with
  | some .string, .int _ i => .side (0 ≤ i ∧ i < s.length) (.leaf (.int .u8 ((s.getD i.toNat 0).toNat : Nat)))
  | _, _ => .fail
 | .agg cs => match P.underlying t, i with
  | some (.array len e), .int _ i => match zW P e, jo P e with
   | some sz, some a => .side (0 ≤ i ∧ i < len ∧ i.toNat * sz + sz ≤ cs.length) (jV a ((cs.drop (i.toNat * sz)).take sz))
   | _, _ => .fail
  | _, _ => .fail
 | _ => .fail
def KH (t : TypeId) (f : Nat) : AV → Tree AV
 | .agg cs => match kR P t f with
  | some (o, ft, n) => match jo P ft with
   | some a => if o + n ≤ cs.length then jV a ((cs.drop o).take n) else .fail
   | none => .fail
  | none => .fail
 | _ => .fail
def Zv (ag : Bool) (sz : Nat) (get : Nat → AV) : AV := bif ag then .agg ((List.range sz).map get) else get 0
def q6 (ok : Bool) (v : AV) (b : Bool) : AV := bif ok then .tup [v, .bool b] else v
def VN (ok ag : Bool) (sz : Nat) (get : Int → Nat → AV) (n : Int) : List Int → Tree AV
 | [] => .fail
 | k :: l => .ite (decide (n = k)) (.leaf (q6 ok (Zv ag sz (get k)) true)) (VN ok ag sz get n l)
def W7 (ok ag : Bool) (sz : Nat) (get : Int → Nat → AV) (n : Int) : List Int → Tree AV
 | [] => .leaf (q6 ok (Zv ag sz (get n)) true)
 | k :: l => VN ok ag sz get n (k :: l)
def scX : AV → Option (SK × Sc)
 | .int k n => some (.inl k, .inl n)
 | .str s => some (.inr false, .inr s)
 | .bool b => some (.inr true, .inl (bif b then 1 else 0))
 | _ => none
def scsX : List AV → Option (List SK × List Sc)
 | [] => some ([], [])
 | a :: l => match scX a, scsX l with
  | some (k, s), some (ks, ss) => some (k :: ks, s :: ss)
  | _, _ => none
def keyX : AV → Option (Bool × List SK × List Sc)
 | .agg cs => match scsX cs with
  | some (ks, ss) => some (true, ks, ss)
  | none => none
 | a => match scX a with
  | some (k, s) => some (false, [k], [s])
  | none => none
def xz : Nat → List Field → Option (List SK)
 | _, [] => some []
 | o, f :: fs => if f.name ≠ "_" ∧ f.offset = o then match jo P f.type, P.underlying f.type, xz (o + 1) fs with
   | some false, some (.int k), some l => some (.inl k :: l)
   | some false, some .string, some l => some (.inr false :: l)
   | some false, some .bool, some l => some (.inr true :: l)
   | _, _, _ => none
  else none
def xK (t : TypeId) : Option (Bool × List SK) := match P.underlying t with
 | some (.int k) => some (false, [.inl k])
 | some .string => some (false, [.inr false])
 | some .bool => some (false, [.inr true])
 | some (.struct fs) => if P.stoodInHeld t = false then match xz P 0 fs.toList with
   | some l => some (true, l)
   | none => none
  else none
 | _ => none
def yX : AV → Bool
 | .bool _ => true
 | .int _ _ => true
 | .str _ => true
 | .nilp => true
 | .nilf => true
 | .fn _ [] [] => true
 | _ => false
def JV : AV → Bool
 | .agg cs => cs.all yX
 | a => yX a
def jl (has : List Sc → Bool) (k : List Sc) : List Sc → Bool := fun x => decide (x = k) || has x
def zH (get : List Sc → AV) (k : List Sc) (v : AV) : List Sc → AV := fun x => if x = k then v else get x
def uq (has : List Sc → Bool) (k : List Sc) : List Sc → Bool := fun x => !decide (x = k) && has x
def Wu : List Sc → Bool := fun _ => false
def Ul : List Sc → AV := fun _ => .undef
def VJ (h : Heap) (t : TypeId) (ok : Bool) (i : Nat) (key : AV) : Tree AV := match h[i]?, keyX key, P.underlying t with
 | some (.map ag sh has get _), some (ag', sh', k), some (.map kt et) => match xK P kt, (P.info? et).bind (·.zero) with
  | some (ag2, sh2), some z => if ag' = ag ∧ sh' = sh ∧ ag2 = ag ∧ sh2 = sh then .ite (has k) (.leaf (q6 ok (get k) true)) (.leaf (q6 ok (xq z) false)) else .fail
  | _, _ => .fail
 | _, _, _ => .fail
def yg (h : Heap) (t : TypeId) (ok : Bool) : AV → AV → Tree AV
 | .omap i, key => VJ P h t ok i key
 | .mp k ag sz ks has get, .int k' n => match P.underlying t with
  | some (.map kt et) => match P.underlying kt, jo P et, (P.info? et).bind (·.zero) with
   | some (.int kk), some a, some z => if k = k' ∧ kk = k ∧ a = ag then .ite (has n) (W7 ok ag sz get n ks) (.leaf (q6 ok (xq z) false)) else .fail
   | _, _, _ => .fail
  | _ => .fail
 | _, _ => .fail
def Z6 (i : Nat) : AV → Tree AV
 | .tup vs => match vs[i]? with
  | some v => .leaf v
  | none => .fail
 | _ => .fail
def VT (t : TypeId) (parts : List (Nat × AV)) : Tree AV := match P.underlying t with
 | some (.struct fs) => match zeroCells P t with
  | some cs => match wP (fun i => match fs[i]? with
    | some f => (zW P f.type).map fun n => (f.offset, n)
    | none => none) cs parts with
   | some cs => if fs.all fun f => (zW P f.type).isSome then .leaf (.agg cs) else .fail
   | none => .fail
  | none => .fail
 | some (.array _ e) => match zeroCells P t, zW P e with
  | some cs, some sz => match wP (fun i => some (i * sz, sz)) cs parts with
   | some cs => .leaf (.agg cs)
   | none => .fail
  | _, _ => .fail
 | _ => .fail
def ye (b : Builtin) : List AV → Tree AV
 | [.int k x, .int k' y] => if k = k' then match b with
   | .max => .leaf (.int k (max x y))
   | .min => .leaf (.int k (min x y))
   | _ => .fail
  else .fail
 | _ => .fail
def valX (ρ : Operand → AV) (h : Heap) (op : Op) : Tree AV := match op with
 | .move x | .assign x => .leaf (ρ x)
 | .build t parts => VT P t (parts.toList.map fun p => (p.1, ρ p.2))
 | .load t a => uM P h t (ρ a)
 | .nilCheck x => nilX (ρ x)
 | .binOp op t x y _ => binX P op t (ρ x) (ρ y)
 | .unOp op _ x => unX op (ρ x)
 | .convert s t x => Vh P h s t (ρ x)
 | .makeFunc (.func f) first cap => .leaf (.fn f (first.toList.map ρ) (cap.toList.map ρ))
 | .slice t x l h' none => yW P t (l.map ρ) (h'.map ρ) (ρ x)
 | .fieldAddr t x f => match kR P t f with
  | some (o, _, _) => Xc o (ρ x)
  | none => .fail
 | .field t x f => KH P t f (ρ x)
 | .indexAddr t x i => kN P t (ρ i) (ρ x)
 | .index t x i => Wc P t (ρ i) (ρ x)
 | .extract t i => Z6 i (ρ t)
 | .lookup t x i ok => yg P h t ok (ρ x) (ρ i)
 | .call c => match c.callee with
  | .builtin .len => match c.argTypes.toList, c.args.toList with
   | [t], [x] => lenX P t (ρ x)
   | _, _ => .fail
  | .builtin .max => ye .max (c.args.toList.map ρ)
  | .builtin .min => ye .min (c.args.toList.map ρ)
  | _ => .fail
 | _ => .fail
def qX : Nat := 140737488355328
def frz1 (h : Heap) : AV → Option (AV × List Nat)
 | .osl i sz off n => match qw h (.osl i sz off n) with
  | some (n, sz, g) => some (.sl n sz g, [i])
  | none => none
 | .ptr _ _ => none
 | .eptr _ _ _ _ => none
 | .omap _ => none
 | .agg _ => none
 | .tup _ => none
 | .fn f [] [] => some (.fn f [] [], [])
 | .fn _ _ _ => none
 | .opt _ _ _ => none
 | .undef => none
 | x => some (x, [])
def frzL (h : Heap) : List AV → Option (List AV × List Nat)
 | [] => some ([], [])
 | a :: l => match frz1 h a, frzL h l with
  | some (a, i), some (l, k) => some (a :: l, i ++ k)
  | _, _ => none
def frz (h : Heap) : AV → Option (AV × List Nat)
 | .agg cs => match frzL h cs with
  | some (cs, k) => some (.agg cs, k)
  | none => none
 | .tup cs => match frzL h cs with
  | some (cs, k) => some (.tup cs, k)
  | none => none
 | x => frz1 h x
def kW (k : List Nat) : List (Nat × Blk) := k.map fun i => (i, .dead)
def Kw (h : Heap) (t : TypeId) (v : AV) : AV → Tree Res
 | .ptr i off => match h[i]?, zW P t, cellsOf v with
  | some (.box cells), some n, some cv => if cv.length = n ∧ off + n ≤ cells.length ∧ cv.all oneA = true then .leaf ⟨.undef, [(i, .box (setAt cells off cv))], []⟩ else .fail
  | _, _, _ => .fail
 | .eptr i sz idx off => match h[i]?, zW P t, cellsOf v with
  | some (.arr n' sz' g), some n, some cv => if sz = sz' ∧ cv.length = n ∧ off + n ≤ sz then match frzL h cv with
    | some (cv, k) => if k.contains i then .fail else .leaf ⟨.undef, (i, .arr n' sz' (updG g idx off cv)) :: kW k, k⟩
    | none => .fail
   else .fail
  | some (.arrI k n' f), some 1, some [.int k' v] => if sz = 1 ∧ off = 0 ∧ k = k' then .leaf ⟨.undef, [(i, .arrI k n' (updI f idx v))], []⟩ else .fail
  | some (.arrS n' f), some 1, some [.str v] => if sz = 1 ∧ off = 0 then .leaf ⟨.undef, [(i, .arrS n' (updS f idx v))], []⟩ else .fail
  | _, _, _ => .fail
 | _ => .fail
def Wl (sz : Nat) (h : Heap) : AV → Option (Nat × (Nat → Nat → AV))
 | .nils => some (0, fun _ _ => .undef)
 | x => match qw h x with
  | some (n, sz', g) => if sz' = sz then some (n, g) else none
  | none => none
def JL (h : Heap) (t tx : TypeId) (s x : AV) : Tree Res := match P.underlying t, P.underlying tx with
 | some (.slice e), some (.slice _) => match P.info? e with
  | some i => if i.bytes = 0 ∨ (zeroCells P e).map List.length ≠ some i.size then .fail else match Wl i.size h x, s with
   | some (n2, g2), .nils => .side (n2 * i.bytes ≤ qX) (.leaf ⟨.osl h.length i.size 0 n2, [(h.length, .arr n2 i.size g2)], []⟩)
   | some (n2, g2), .osl b sz off n => match h[b]? with
    | some (.arr n' sz' g) => if sz = i.size ∧ sz' = i.size then
      .side (off = 0 ∧ n ≤ n' ∧ (n + n2) * i.bytes ≤ qX) (.leaf ⟨.osl b i.size 0 (n + n2), [(b, .arr (n + n2) i.size (appG n g g2))], [b]⟩)
     else .fail
    | _ => .fail
   | _, _ => .fail
  | none => .fail
 | _, _ => .fail
def Vb : AV → List Nat
 | .osl i _ _ _ => [i]
 | .ptr i _ => [i]
 | .eptr i _ _ _ => [i]
 | .omap i => [i]
 | _ => []
def WN : AV → List Nat
 | .agg cs => cs.flatMap Vb
 | .tup cs => cs.flatMap Vb
 | .fn _ a b => a.flatMap Vb ++ b.flatMap Vb
 | x => Vb x
def UF : AV → List Nat
 | .tup cs => cs.flatMap WN
 | .fn _ a b => a.flatMap WN ++ b.flatMap WN
 | x => WN x
def zge : Blk → List Nat
 | .box cs => cs.flatMap WN
 | _ => []
def ren0 (f : Nat → Option Nat) : AV → AV
 | .osl i sz off n => match f i with
  | some j => .osl j sz off n
  | none => .undef
 | .ptr i off => match f i with
  | some j => .ptr j off
  | none => .undef
 | .eptr i sz idx off => match f i with
  | some j => .eptr j sz idx off
  | none => .undef
 | .omap i => match f i with
  | some j => .omap j
  | none => .undef
 | .agg _ => .undef
 | .tup _ => .undef
 | .opt _ _ _ => .undef
 | .fn g a b => match a, b with
  | [], [] => .fn g [] []
  | _, _ => .undef
 | x => x
def ren1 (f : Nat → Option Nat) : AV → AV
 | .agg cs => .agg (cs.map (ren0 f))
 | .fn g a b => .fn g (a.map (ren0 f)) (b.map (ren0 f))
 | x => ren0 f x
def ren2 (f : Nat → Option Nat) : AV → AV
 | .tup cs => .tup (cs.map (ren1 f))
 | .fn g a b => .fn g (a.map (ren1 f)) (b.map (ren1 f))
 | x => ren1 f x
def renB (f : Nat → Option Nat) : Blk → Blk
 | .box cs => .box (cs.map (ren1 f))
 | b => b
def zq : List Nat → Nat → Option Nat
 | [], _ => none
 | x :: l, i => if x = i then some 0 else (zq l i).map (· + 1)
def wq (L : List Nat) (d : Nat) (j : Nat) : Option Nat := if j < L.length then L[j]? else some (d + (j - L.length))
def jP : List Nat → Bool
 | [] => true
 | i :: l => !l.contains i && jP l
def reach (h : Heap) : Nat → List Nat → List Nat → List Nat
 | 0, _, acc => acc
 | _ + 1, [], acc => acc
 | n + 1, i :: t, acc => if acc.contains i then reach h n t acc else reach h n ((match h[i]? with
  | some b => zge b
  | none => []) ++ t) (acc ++ [i])
def wu : List Nat → Nat → List Blk → List (Nat × Blk)
 | [], d, b :: l => (d, b) :: wu [] (d + 1) l
 | i :: L, d, b :: l => (i, b) :: wu L d l
 | _, _, [] => []
def zed (h : Heap) (c : Ctr) (args : List AV) (L : List Nat) : Tree Res :=
 if (L.all fun i => decide (i < h.length)) && jP L then
  (c.spec (args.map (ren2 (zq L))) (L.map fun i => renB (zq L) (h.getD i .dead))).bind fun r =>
   if L.length ≤ r.2.length then .leaf ⟨ren2 (wq L h.length) r.1, wu L h.length (r.2.map (renB (wq L h.length))), bif c.wv then L.drop c.pins else []⟩ else .fail
 else .fail
def zb5 (h : Heap) (f : Nat) (args : List AV) : Tree Res := match Γ f with
 | some c => match c.fresh with
  | true => match args.mapM fun a => frz h a with
   | some l => (c.spec (l.map (·.1)) []).bind fun r => .leaf ⟨ren2 (wq [] h.length) r.1, wu [] h.length (r.2.map (renB (wq [] h.length))), []⟩
   | none => .fail
  | false => zed h c args (reach h 60 (args.flatMap UF) [])
 | none => .fail
def Zs (h : Heap) (t : TypeId) : Tree Res := match P.underlying t with
 | some (.map kt _) => match xK P kt with
  | some (ag, sh) => .leaf ⟨.omap h.length, [(h.length, .map ag sh Wu Ul)], []⟩
  | none => .fail
 | _ => .fail
def Xl (h : Heap) (t : TypeId) (m key v : AV) : Tree Res := match m with
 | .omap i => match h[i]?, keyX key, P.underlying t with
  | some (.map ag sh has get _), some (ag', sh', k), some (.map kt _) => match xK P kt with
   | some (ag2, sh2) => if ag' = ag ∧ sh' = sh ∧ ag2 = ag ∧ sh2 = sh ∧ JV v = true then .leaf ⟨.undef, [(i, .map ag sh (jl has k) (zH get k v))], []⟩ else .fail
   | none => .fail
  | _, _, _ => .fail
 | _ => .fail
def zaz (h : Heap) (t : TypeId) (m key : AV) : Tree Res := match m with
 | .omap i => match h[i]?, keyX key, P.underlying t with
  | some (.map ag sh has get _), some (ag', sh', k), some (.map kt _) => match xK P kt with
   | some (ag2, sh2) => if ag' = ag ∧ sh' = sh ∧ ag2 = ag ∧ sh2 = sh then .leaf ⟨.tup [], [(i, .map ag sh (uq has k) get)], []⟩ else .fail
   | none => .fail
  | _, _, _ => .fail
 | _ => .fail
def zb9 (h : Heap) (t : TypeId) (m key : AV) : Tree Res := match m with
 | .omap i => match h[i]?, keyX key, P.underlying t with
  | some (.map ag sh has get _), some (ag', sh', k), some (.map kt et) => match xK P kt, (P.info? et).bind (·.zero) with
   | some (ag2, sh2), some _ => if ag' = ag ∧ sh' = sh ∧ ag2 = ag ∧ sh2 = sh then .all (fun _ : Int => True) fun st => .leaf ⟨.tup [.undef, .int .i64 st], [(i, .map ag sh (jl has k) (zH get k .undef) (some (k, st)))], []⟩ else .fail
   | _, _ => .fail
  | _, _, _ => .fail
 | _ => .fail
def zas (h : Heap) (m stamp v : AV) : Tree Res := match m, stamp with
 | .omap i, .int _ st => match h[i]? with
  | some (.map ag sh has get (some (k, st'))) => if JV v = true then .side (st = st') (.leaf ⟨.undef, [(i, .map ag sh has (zH get k v))], []⟩) else .fail
  | _ => .fail
 | _, _ => .fail
def zga : AV → Bool
 | .osl _ _ _ _ => true
 | _ => false
def opX (ρ : Operand → AV) (h : Heap) (op : Op) : Tree Res := match op with
 | .alloc t => match zeroCells P t with
  | some cs => .leaf ⟨.ptr h.length 0, [(h.length, .box cs)], []⟩
  | none => .fail
 | .box _ x => match cellsOf (ρ x) with
  | some cs => .leaf ⟨.ptr h.length 0, [(h.length, .box cs)], []⟩
  | none => .fail
 | .buildSlice t len parts => match P.underlying t with
  | some (.slice e) => match zeroCells P e, zW P e with
   | some cs, some sz => if len * sz ≤ 16777216 ∧ cs.length = sz then match wP (fun i => some (i * sz, sz)) (List.replicate len cs).flatten (parts.toList.map fun p => (p.1, ρ p.2)) with
    | some cs => bif cs.any zga then .leaf ⟨.osl h.length sz 0 len, [(h.length, .box cs)], []⟩ else match frzL h cs with
     | some (cs, k) => .leaf ⟨.osl h.length sz 0 len, (h.length, .arr len sz (zf sz cs)) :: kW k, k⟩
     | none => .fail
    | none => .fail
    else .fail
   | _, _ => .fail
  | _ => .fail
 | .store t a v => Kw P h t (ρ v) (ρ a)
 | .makeMap t none => Zs P h t
 | .mapUpdate t m k v => Xl P h t (ρ m) (ρ k) (ρ v)
 | .insert t m k v => Xl P h t (ρ m) (ρ k) (ρ v)
 | .mapEntry t m k => zb9 P h t (ρ m) (ρ k)
 | .entryStore _ m s v => zas h (ρ m) (ρ s) (ρ v)
 | .makeSlice t l c => match P.underlying t, ρ l, ρ c with
  | some (.slice e), .int _ l, .int _ c => match P.info? e, zeroCells P e with
   | some i, some z => if z.length = i.size ∧ z.all oneA = true then .side (0 ≤ l ∧ l ≤ c ∧ inR .i64 c ∧ c.toNat * i.bytes ≤ qX) (.leaf ⟨.osl h.length i.size 0 l.toNat, [(h.length, .arr l.toNat i.size (kP z))], []⟩) else .fail
   | _, _ => .fail
  | _, _, _ => .fail
 | .call c => match c.callee with
  | .builtin .append => match c.argTypes.toList, c.args.toList with
   | [t, tx], [s, x] => JL P h t tx (ρ s) (ρ x)
   | _, _ => .fail
  | .builtin .delete => match c.argTypes.toList, c.args.toList with
   | [t, _], [m, k] => zaz P h t (ρ m) (ρ k)
   | _, _ => .fail
  | .builtin _ => (valX P ρ h (.call c)).bind fun v => .leaf ⟨v, [], []⟩
  | .value f => match ρ f with
   | .fn g first cap => zb5 Γ h g (first ++ c.args.toList.map ρ ++ cap)
   | _ => .fail
  | _ => .fail
 | op => (valX P ρ h op).bind fun v => .leaf ⟨v, [], []⟩
def Ue (ρ' : Bool → AV) : AV → Tree AV
 | .bool c => match ρ' true, ρ' false with
  | .bool x, .bool y => .leaf (.bool (bif c then x else y))
  | _, _ => .fail
 | _ => .fail
variable [Stat]
def see (K : List (Nat × Bool)) : AV → AV
 | .opt t want x => if K.contains (t, want) then x else .undef
 | x => x
def zI (st : St) (K : List (Nat × Bool)) : Operand → AV
 | .tmp t => see K (st.tmps.getD t .undef)
 | .const v => xq v
 | .func f => .fn f [] []
 | .global g => match Stat.z g with
  | some a => .iptr 1 fun _ => a
  | none => .gptr g
def zQ (t : Nat) : AV → AV
 | .opt u want x => if u = t then .undef else .opt u want x
 | x => x
def vg : List Nat → List AV → List AV
 | [], ts => ts
 | i :: k, ts => vg k (ts.map (zT i))
def zB : List Nat → Heap → Heap
 | [], h => h
 | i :: k, h => zB k (h.map (zen i))
def putX (st : St) (dst : Option Nat) (r : Res) : St :=
 match dst with
 | some d => ⟨((vg r.kill st.tmps).map (zQ d)).set d r.val, zm (zB r.kill st.heap) r.eff⟩
 | none => ⟨vg r.kill st.tmps, zm (zB r.kill st.heap) r.eff⟩
def qE (tmps : List AV) : Nat → Nat → Bool → List (Nat × Bool)
 | 0, t, want => [(t, want)]
 | d + 1, t, want => (t, want) :: match tmps.getD t .undef with
  | .opt u w _ => qE tmps d u w
  | _ => []
def jz (tmps : List AV) : Nat → Nat → Bool → Option Prop
 | 0, _, _ => none
 | d + 1, t, want => match tmps.getD t .undef with
  | .bool b => some (b = want)
  | .opt u w (.bool b) => match jz tmps d u w with
   | some p => some (p ∧ b = want)
   | none => none
  | _ => none
def pinX {α : Type} (pin : Nat) (r : Res) (t : Tree α) : Tree α := match r.kill with
 | [] => t
 | k => if k.all fun i => decide (pin ≤ i) then t else .fail
def zc6 (st : St) (K : List (Nat × Bool)) (c a b : Operand) : Tree AV := match c with
 | .tmp u => Ue (fun w => match w with | true => zI st ((u, true) :: K) a | false => zI st ((u, false) :: K) b) (zI st K c)
 | _ => .fail
def opV (st : St) (K : List (Nat × Bool)) (op : Op) : Tree Res := match op with
 | .pick c a b => (zc6 st K c a b).bind fun v => .leaf ⟨v, [], []⟩
 | op => opX P Γ (zI st K) st.heap op
def vw (q : Prop) (t : Nat) (want : Bool) : Tree Res → Tree Res
 | .leaf ⟨v, [], []⟩ => .leaf ⟨.opt t want v, [], []⟩
 | .leaf _ => .fail
 | .ite b x y => .ite b (vw q t want x) (vw q t want y)
 | .side p x => .side (q → p) (vw q t want x)
 | .ex p k => .ex (fun x => q → p x) fun x => vw q t want (k x)
 | .all p k => .all (fun x => q → p x) fun x => vw q t want (k x)
 | .fail => .fail
def kL (tmps : List AV) : Nat → Nat → Bool → Option Bool
 | 0, _, _ => none
 | d + 1, t, want => match tmps.getD t .undef with
  | .bool b => some (b == want)
  | .opt u w (.bool b) => match kL tmps d u w with
   | some g => some (g && (b == want))
   | none => none
  | _ => none
def kb (ρ : Operand → AV) (h : Heap) : Op → Bool
 | .call c => match c.callee with
  | .value f => match ρ f with
   | .fn g first cap => match Γ g with
    | some ctr => !ctr.fresh && !(reach h 60 ((first ++ c.args.toList.map ρ ++ cap).flatMap UF) []).isEmpty
    | none => false
   | _ => false
  | _ => false
 | .buildSlice _ _ _ => true
 | _ => false
def zbt (t : TypeId) : AV := match P.info? t with
 | some i => match i.zero with
  | some v => xq v
  | none => .undef
 | none => .undef
def J1 (st : St) (t : Nat) (want : Bool) (o : Oper) : Tree Res := match kL st.tmps 4 t want, o.dst with
 | some g, some d => if d ≠ t then .ite g ((opV P Γ st (qE st.tmps 4 t want) o.op).bind fun r => .leaf ⟨see [] r.val, r.eff, r.kill⟩) (.leaf ⟨.opt t want (zbt P o.type), [], []⟩) else .fail
 | _, _ => .fail
def qL (ops : Array Oper) (st : St) (o : Oper) : Tree Res := match o.guard with
 | none => (opV P Γ st [] o.op).bind fun r => .leaf ⟨see [] r.val, r.eff, r.kill⟩
 | some (j, want) => match (ops[j]?).bind (·.dst) with
  | none => .fail
  | some t => match kb Γ (zI st (qE st.tmps 4 t want)) st.heap o.op with
   | true => J1 P Γ st t want o
   | false => match jz st.tmps 4 t want, o.dst with
    | some q, some d => if d ≠ t then vw q t want (opV P Γ st (qE st.tmps 4 t want) o.op) else .fail
    | _, _ => .fail
def UK (pin : Nat) (ops : Array Oper) (st : St) (o : Oper) : Tree St := (qL P Γ ops st o).bind fun r => pinX pin r (.leaf (putX st o.dst r))
def opsX (pin : Nat) (ops : Array Oper) : List Oper → St → Tree St
 | [], st => .leaf st
 | o :: rest, st => (UK P Γ pin ops st o).bind (opsX pin ops rest)
def jT (o : Oper) : List Nat := o.after.toList.filterMap fun e => if Region.binds .any e then some e.on else none
def Va (ops : Array Oper) (L : List Nat) (i : Nat) : Bool := !L.contains i && match ops[i]? with
 | some o => (jT o).all fun k => L.contains k
 | none => false
def vN (ops : Array Oper) (L : List Nat) : List Nat := (List.range ops.size).filter (Va ops L)
def ancs (ops : Array Oper) : Nat → List Nat → List Nat → List Nat
 | 0, _, acc => acc
 | _ + 1, [], acc => acc
 | n + 1, i :: t, acc => if acc.contains i then ancs ops n t acc else ancs ops n ((match ops[i]? with
  | some o => jT o
  | none => []) ++ t) (i :: acc)
def j4 (ops : Array Oper) (o : Oper) : List Nat := ancs ops 300 (jT o) []
def zbl (o : Oper) : List Nat := o.op.operands.toList.filterMap fun | .tmp t => some t | _ => none
def zab : AV → List Nat
 | .opt u _ _ => [u]
 | _ => []
def qY (tmps : List AV) : Nat → Nat → List Nat
 | 0, t => [t]
 | n + 1, t => t :: match tmps.getD t .undef with
  | .opt u _ _ => qY tmps n u
  | _ => []
def qA (ops : Array Oper) (tmps : List AV) (o : Oper) : List Nat := zbl o ++ match o.guard with
 | some (j, _) => match (ops[j]?).bind (·.dst) with
  | some t => qY tmps 4 t
  | none => []
 | none => []
def zL (ops : Array Oper) (tmps : List AV) (o : Oper) : List Nat := qA ops tmps o ++ (qA ops tmps o).flatMap fun t => zab (tmps.getD t .undef)
def zV (ρ : Operand → AV) : Op → Option (List Nat)
 | .load _ a => match ρ a with
  | .ptr i _ => some [i]
  | .eptr i _ _ _ => some [i]
  | .iptr _ _ => some []
  | _ => none
 | .convert _ _ x => match ρ x with
  | .int _ _ => some []
  | .str _ => some []
  | _ => none
 | .move _ | .assign _ | .build _ _ | .nilCheck _ | .binOp _ _ _ _ _ | .unOp _ _ _ | .makeFunc _ _ _ | .slice _ _ _ _ _ | .fieldAddr _ _ _ | .field _ _ _ | .indexAddr _ _ _ | .index _ _ _ | .extract _ _ | .pick _ _ _ => some []
 | .call c => match c.callee with
  | .builtin .len => some []
  | .builtin .max => some []
  | .builtin .min => some []
  | _ => none
 | _ => none
def vJ (ops : Array Oper) (st : St) (o : Oper) : List (Nat × Bool) := match o.guard with
 | some (j, want) => match (ops[j]?).bind (·.dst) with
  | some t => qE st.tmps 4 t want
  | none => []
 | none => []
structure Ent where
 k : Nat
 d : Nat
 looks : List Nat
 labs : List Nat
 x : AV
def U9 (ops : Array Oper) (st : St) (i : Nat) : Option Ent := match ops[i]? with
 | some o => match o.dst, zV (zI st (vJ ops st o)) o.op with
  | some d, some ls => if (zL ops st.tmps o).contains d || !(ls.all fun i => decide (i < st.heap.length)) then none else match (qL P Γ ops st o).chain with
   | some (_, ⟨x, [], []⟩) => some ⟨i, d, zL ops st.tmps o, ls, x⟩
   | _ => none
  | _, _ => none
 | none => none
def wa (A : List Nat) (dst : Option Nat) (looks : List Nat) (quiet : Bool) (e : Ent) : Bool :=
 (A.contains e.k && (!quiet || match dst with
  | some d => !e.looks.contains d && !(d == e.d)
  | none => true)) ||
 ((match dst with
  | some d => !e.looks.contains d && !(d == e.d)
  | none => true) && !looks.contains e.d)
def xu (K : List Nat) : AV → Bool
 | .osl i _ _ _ => !K.contains i
 | .eptr i _ _ _ => !K.contains i
 | .ptr i _ => !K.contains i
 | .omap i => !K.contains i
 | .agg _ => false
 | .tup _ => false
 | .fn _ a b => a.isEmpty && b.isEmpty
 | .opt _ _ _ => false
 | _ => true
def Jj (K : List Nat) : AV → Bool
 | .agg cs => cs.all (xu K)
 | .tup cs => cs.all (xu K)
 | x => xu K x
def UG (K : List Nat) : Blk → Bool
 | .box cs => cs.all (Jj K)
 | _ => true
def effK (A : List Nat) (st : St) (r : Res) (e : Ent) : Bool := A.contains e.k || (r.kill.isEmpty || (Jj r.kill e.x && e.looks.all (fun t => Jj r.kill (st.tmps.getD t .undef))))
def effE (A : List Nat) (st : St) (r : Res) (e : Ent) : Bool := A.contains e.k || (r.eff.all (fun p => !e.labs.contains p.1) && (r.kill.isEmpty || e.labs.all fun i => UG r.kill (st.heap.getD i .dead)))
def JR : AV → AV → Option Prop
 | .str s, .str t => some (s = t)
 | .int k n, .int k' n' => if k = k' then some (n = n') else none
 | .bool a, .bool b => some (a = b)
 | .ptr i o, .ptr j q => if i = j ∧ o = q then some True else none
 | .eptr i z x o, .eptr j y x' q => if i = j ∧ z = y ∧ o = q then some (x = x') else none
 | .omap i, .omap j => if i = j then some True else none
 | .fn f [] [], .fn g [] [] => some (f = g)
 | .nils, .nils => some True
 | .nilp, .nilp => some True
 | .nilf, .nilf => some True
 | .sl n z g, .sl m y h => some (n = m ∧ z = y ∧ g = h)
 | .osl i z o n, .osl j y q m => if i = j ∧ z = y then some (o = q ∧ n = m) else none
 | _, _ => none
def u4 {α : Type} (ops : Array Oper) (st : St) : List Ent → Tree α → Tree α
 | [], t => t
 | e :: l, t => match ops[e.k]? with
  | some o => (qL P Γ ops st o).bind fun r => match r with
   | ⟨x, [], []⟩ => match JR x e.x with
    | some p => .side p (u4 ops st l t)
    | none => .fail
   | _ => .fail
  | none => .fail
def zeu (ops : Array Oper) (st : St) (res : List Ent) (i : Nat) : Option Ent := match U9 P Γ ops st i with
 | some e => match ops[e.k]? with
  | some o => if res.all (wa (j4 ops o) o.dst (zL ops st.tmps o) true) then some e else none
  | none => none
 | none => none
def KW {α : Type} : List (Tree α) → Tree α
 | [] => .fail
 | [t] => t
 | t :: l => .all (fun _ : Bool => True) fun b => .ite b t (KW l)
def anyX (pin : Nat) (ops : Array Oper) : Nat → List Nat → List Ent → St → Tree St
 | 0, _, _, _ => .fail
 | n + 1, L, res, st => match vN ops L with
  | [] => .leaf st
  | i0 :: rs => match (i0 :: rs).findSome? (zeu P Γ ops st res) with
   | some e => match ops[e.k]? with
    | some o => if res.all (wa (j4 ops o) o.dst (zL ops st.tmps o) true) && (i0 :: rs).contains e.k then
      (qL P Γ ops st o).bind fun r => anyX pin ops n (e.k :: L) (e :: res) (putX st o.dst r)
     else .fail
    | none => .fail
   | none => KW ((i0 :: rs).map fun i => match ops[i]? with
    | some o => if res.all (wa (j4 ops o) o.dst (zL ops st.tmps o) false) then
      (qL P Γ ops st o).bind fun r => if res.all (effK (j4 ops o) st r) then pinX pin r (u4 P Γ ops (putX st o.dst r) (res.filter fun e => !effE (j4 ops o) st r e) (anyX pin ops n (i :: L) res (putX st o.dst r))) else .fail
     else .fail
    | none => .fail)
def xV (st : St) : St := ⟨st.tmps.map fun | .opt _ _ _ => .undef | x => x, st.heap⟩
def JY {α : Type u} : AV → (AV → α) → α
 | .undef, f => f .undef
 | .bool b, f => f (.bool b)
 | .int k n, f => f (.int k n)
 | .str s, f => f (.str s)
 | .nils, f => f .nils
 | .sl n sz g, f => f (.sl n sz g)
 | .osl i sz off n, f => f (.osl i sz off n)
 | .ptr i off, f => f (.ptr i off)
 | .nilp, f => f .nilp
 | .eptr i sz idx off, f => f (.eptr i sz idx off)
 | .iptr m g, f => f (.iptr m g)
 | .gptr g, f => f (.gptr g)
 | .agg cs, f => f (.agg cs)
 | .tup cs, f => f (.tup cs)
 | .fn g a b, f => f (.fn g a b)
 | .nilf, f => f .nilf
 | .opt t w x, f => f (.opt t w x)
 | .mp k ag sz ks has get, f => f (.mp k ag sz ks has get)
 | .omap i, f => f (.omap i)
def vQ {α : Type u} : List AV → (List AV → α) → α
 | [], f => f []
 | a :: l, f => JY a fun a => vQ l fun l => f (a :: l)
def Kd {α : Type u} : AV → (AV → α) → α
 | .agg cs, f => vQ cs fun cs => f (.agg cs)
 | .tup cs, f => vQ cs fun cs => f (.tup cs)
 | .fn g a b, f => vQ a fun a => vQ b fun b => f (.fn g a b)
 | x, f => JY x f
def Qx {α : Type u} : List AV → (List AV → α) → α
 | [], f => f []
 | a :: l, f => Kd a fun a => Qx l fun l => f (a :: l)
def j6 {α : Type u} : Heap → (Heap → α) → α
 | [], f => f []
 | .dead :: l, f => j6 l fun l => f (.dead :: l)
 | .box cs :: l, f => Qx cs fun cs => j6 l fun l => f (.box cs :: l)
 | .arr n sz g :: l, f => j6 l fun l => f (.arr n sz g :: l)
 | .map ag sh has get pe :: l, f => j6 l fun l => f (.map ag sh has get pe :: l)
 | .arrI k n g :: l, f => j6 l fun l => f (.arrI k n g :: l)
 | .arrS n g :: l, f => j6 l fun l => f (.arrS n g :: l)
def force {α : Type u} (st : St) (f : St → α) : α := Qx st.tmps fun t => j6 st.heap fun h => f ⟨t, h⟩
theorem Zm {α : Type u} (a : AV) (f : AV → α) : JY a f = f a := by cases a <;> rfl
theorem ZX {α : Type u} : ∀ (l : List AV) (f : List AV → α), vQ l f = f l
 | [], _ => rfl
 | a :: l, f => by simp only [vQ, Zm, ZX l]
theorem YD {α : Type u} (a : AV) (f : AV → α) : Kd a f = f a := by cases a <;> simp only [Kd, Zm, ZX]
theorem ud {α : Type u} : ∀ (l : List AV) (f : List AV → α), Qx l f = f l
 | [], _ => rfl
 | a :: l, f => by simp only [Qx, YD, ud l]
theorem jR {α : Type u} : ∀ (l : Heap) (f : Heap → α), j6 l f = f l
 | [], _ => rfl
 | .dead :: l, f => by simp only [j6, jR l]
 | .box cs :: l, f => by simp only [j6, ud, jR l]
 | .arr n sz g :: l, f => by simp only [j6, jR l]
 | .map ag sh has get pe :: l, f => by simp only [j6, jR l]
 | .arrI k n g :: l, f => by simp only [j6, jR l]
 | .arrS n g :: l, f => by simp only [j6, jR l]
theorem force_eq {α : Type u} (st : St) (f : St → α) : force st f = f st := by simp only [force, ud, jR]
inductive Item where
 | code (c : Code)
 | inBlock (id : Nat)
 | inLoop
inductive Leaf where
 | ret (st : St)
 | back (d : Nat) (st : St)
 | loop (c : Code) (k : List Item) (st : St)
 | range (c : Code) (k : List Item) (st : St)
def wB : List Item → Nat
 | [] => 0
 | .inLoop :: k => wB k + 1
 | _ :: k => wB k
def exitTo (id : Nat) : List Item → Option (List Item)
 | [] => none
 | .inBlock i :: k => if i = id then some k else exitTo id k
 | _ :: k => exitTo id k
def run (pin : Nat) : Nat → List Item → St → Tree Leaf
 | 0, _, _ => .fail
 | _ + 1, [], st => .leaf (.ret st)
 | n + 1, .inBlock _ :: k, st => run pin n k st
 | _ + 1, .inLoop :: k, st => .leaf (.back (wB k) st)
 | n + 1, .code c :: k, st => match c with
  | .skip => run pin n k st
  | .seq a b => run pin n (.code a :: .code b :: k) st
  | .region _ ops false => (opsX P Γ pin ops ops.toList st).bind fun st' => force (xV st') (run pin n k)
  | .region _ ops true => (anyX P Γ pin ops (2 * ops.size + 2) [] [] st).bind fun st' => force (xV st') (run pin n k)
  | .cond (.tmp t) x y => match st.tmps.getD t .undef with
   | .bool b => .ite b (run pin n (.code x :: k) st) (run pin n (.code y :: k) st)
   | _ => .fail
  | .block id c => run pin n (.code c :: .inBlock id :: k) st
  | .loop c => .leaf (.loop c k st)
  | .rangeFunc g ps x y => .leaf (.range (.rangeFunc g ps x y) k st)
  | .exit id => match exitTo id k with
   | some k' => run pin n k' st
   | none => .fail
  | .ret => .leaf (.ret st)
  | _ => .fail
end
end Go.Sx
end

/- What an abstract value says of a value in a world; steps of the world; what is kept. -/
section
namespace Go.Sx
variable [Stat]
open Go.RowKit (Below)
structure SE where
 ad : Option Addr
 n : Nat
def VF (w : World) (b : Nat) (g : Nat) : Prop := (Stat.z g).isSome = true ∧ w.cell? ⟨g, 0, none⟩ = some (.map (some b))
mutual
def Rep (own : Nat → Prop) (w : World) : AV → List SE → Value → Prop
 | .undef, _, _ => True
 | .bool b, _, v => v = .bool b
 | .int k n, _, v => v = .int k n
 | .str s, _, v => v = .string ⟨s.toArray⟩
 | .nils, _, v => v = .slice none 0 0
 | .sl n sz get, _, v => ∃ a cap, v = .slice a n cap ∧ n ≤ cap ∧ (n = 0 ∨ ∃ ad, a = some ad ∧ ad.spot = none ∧
   ∀ j o, j < n → o < sz → ¬ own ad.block ∧ ∃ c, w.cell? ⟨ad.block, ad.off + (j * sz + o), none⟩ = some c ∧ c.oneCell' = true ∧ Rep own w (get j o) [] c)
 | .osl i sz off n, σ, v => ∃ e, σ[i]? = some e ∧ off + n ≤ e.n ∧ ∃ a cap, v = .slice a n cap ∧ n ≤ cap ∧
   (cap = 0 ∨ ∃ ad, e.ad = some ad ∧ a = some ⟨ad.block, ad.off + off * sz, none⟩ ∧
    ∃ cs el, w.heap[ad.block]? = some (.cells cs el (0, 0)) ∧ ad.off + (off + cap) * sz ≤ cs.size)
 | .ptr i off, σ, v => ∃ e ad, σ[i]? = some e ∧ e.ad = some ad ∧ v = .pointer (some ⟨ad.block, ad.off + off, none⟩)
 | .nilp, _, v => v = .pointer none
 | .eptr i sz idx off, σ, v => ∃ e ad, σ[i]? = some e ∧ e.ad = some ad ∧ idx < e.n ∧ v = .pointer (some ⟨ad.block, ad.off + (idx * sz + off), none⟩)
 | .iptr m get, _, v => ∃ ad, v = .pointer (some ad) ∧ ad.spot = none ∧
   ∀ o, o < m → ¬ own ad.block ∧ ∃ c, w.cell? ⟨ad.block, ad.off + o, none⟩ = some c ∧ Rep own w (get o) [] c
 | .gptr g, _, v => v = .pointer (some ⟨g, 0, none⟩)
 | .agg cs, σ, v => ∃ vs : List Value, v = .agg vs.toArray ∧ RepL own w cs σ vs
 | .tup cs, σ, v => ∃ vs : List Value, v = .tuple vs.toArray ∧ RepL own w cs σ vs
 | .fn f a b, σ, v => ∃ va vb : List Value, v = .func (.func f) va.toArray vb.toArray ∧ RepL own w a σ va ∧ RepL own w b σ vb
 | .nilf, _, v => v = .nilFunc
 | .opt _ _ _, _, _ => True
 | .mp k ag sz ks has get, _, v => ∃ b es clock, v = .map (some b) ∧ ¬ own b ∧ (∃ g, ¬ own g ∧ VF w b g) ∧ w.heap[b]? = some (.map es clock) ∧
   ∀ n, (has n = false → Instr.findNow (.int k) (.int k n) es.toList 0 = some none) ∧
    (has n = true → ∃ i x, Instr.findNow (.int k) (.int k n) es.toList 0 = some (some (i, x)) ∧
     match ag with
     | true => ∃ vs : List Value, x = .agg vs.toArray ∧ vs.length = sz ∧ ∀ o, o < sz → ∃ c, vs[o]? = some c ∧ Rep own w (get n o) [] c
     | false => Rep own w (get n 0) [] x)
 | .omap i, σ, v => ∃ e ad, σ[i]? = some e ∧ e.ad = some ad ∧ v = .map (some ad.block)
def RepL (own : Nat → Prop) (w : World) : List AV → List SE → List Value → Prop
 | [], _, vs => vs = []
 | a :: l, σ, vs => ∃ v r, vs = v :: r ∧ Rep own w a σ v ∧ RepL own w l σ r
end
def Own (O : Nat → Prop) (σ : List SE) (b : Nat) : Prop := O b ∨ ∃ e ∈ σ, ∃ ad, e.ad = some ad ∧ ad.block = b
structure vu (own : Nat → Prop) (w : World) : Prop where
 at_ : ∀ (g : Nat) (a : AV), Stat.z g = some a → ¬ own g ∧ ∃ c, w.cell? ⟨g, 0, none⟩ = some c ∧ Rep own w a [] c ∧ ∀ b, c = .map (some b) → b < w.heap.size
structure Good (O : Nat → Prop) (w : World) (σ : List SE) : Prop where
 old : ∀ b, O b → b < w.heap.size
 dis : ∀ (i : Nat) (e : SE) (ad : Addr), σ[i]? = some e → e.ad = some ad → ¬ O ad.block
 stat : vu (Own O σ) w
def scV : SK → Sc → AV
 | .inl k, .inl n => .int k n
 | .inr false, .inr s => .str s
 | .inr true, .inl n => .bool (decide (n = 1))
 | _, _ => .undef
def okSc : SK → Sc → Prop
 | .inl _, .inl _ => True
 | .inr false, .inr _ => True
 | .inr true, .inl n => n = 0 ∨ n = 1
 | _, _ => False
def qx : List SK → List Sc → Prop
 | [], [] => True
 | k :: ks, s :: ss => okSc k s ∧ qx ks ss
 | _, _ => False
def keyA (ag : Bool) (sh : List SK) (k : List Sc) : AV := bif ag then .agg (List.zipWith scV sh k) else scV (sh.headD (.inr false)) (k.headD (.inl 0))
def kA (own : Nat → Prop) (w : World) (ag : Bool) (sh : List SK) (get : List Sc → AV) : List MapEntry → List (List Sc) → Prop
 | [], [] => True
 | e :: es, k :: ks => qx sh k ∧ Rep own w (keyA ag sh k) [] e.key ∧ Rep own w (get k) [] e.val ∧ kA own w ag sh get es ks
 | _, _ => False
structure jN (es : Array MapEntry) (clock : Nat) (l : List (List Sc)) (pe : Option (List Sc × Int)) : Prop where
 nd : (es.toList.map (·.born)).Nodup
 lt : ∀ x ∈ es.toList, x.born < clock
 pend : ∀ k st, pe = some (k, st) → ∃ (i : Nat) (e : MapEntry), es[i]? = some e ∧ l[i]? = some k ∧ (e.born : Int) = st
def BRep (own : Nat → Prop) (w : World) (σ : List SE) (e : SE) : Blk → Prop
 | .dead => True
 | .map ag sh has get pe => ∃ ad es clock l, e.ad = some ad ∧ w.heap[ad.block]? = some (.map es clock) ∧ (ag = false → sh.length = 1) ∧ (l.Nodup ∧ jN es clock l pe) ∧ (∀ k, has k = true ↔ k ∈ l) ∧ kA own w ag sh get es.toList l
 | .box cells => ∃ ad vs el, e.ad = some ad ∧ ad.off = 0 ∧ w.heap[ad.block]? = some (.cells (List.toArray vs) el (0, 0)) ∧ RepL own w cells σ vs
 | .arr n sz get => e.n = n ∧ (n = 0 ∨ ∃ ad cs el, e.ad = some ad ∧ w.heap[ad.block]? = some (.cells cs el (0, 0)) ∧ ad.off + n * sz ≤ cs.size ∧
   ∀ j o, j < n → o < sz → ∃ c, cs[ad.off + (j * sz + o)]? = some c ∧ c.oneCell' = true ∧ Rep own w (get j o) [] c)
 | .arrI k n f => e.n = n ∧ (n = 0 ∨ ∃ ad cs el, e.ad = some ad ∧ w.heap[ad.block]? = some (.cells cs el (0, 0)) ∧ ad.off + n * 1 ≤ cs.size ∧
   ∀ j o, j < n → o < 1 → ∃ c, cs[ad.off + (j * 1 + o)]? = some c ∧ c.oneCell' = true ∧ Rep own w (tgI k f j o) [] c)
 | .arrS n f => e.n = n ∧ (n = 0 ∨ ∃ ad cs el, e.ad = some ad ∧ w.heap[ad.block]? = some (.cells cs el (0, 0)) ∧ ad.off + n * 1 ≤ cs.size ∧
   ∀ j o, j < n → o < 1 → ∃ c, cs[ad.off + (j * 1 + o)]? = some c ∧ c.oneCell' = true ∧ Rep own w (tgS f j o) [] c)
theorem kj {own : Nat → Prop} {w : World} {σ : List SE} {e : SE} {k : IntKind} {n : Nat} {f : Nat → Int} : BRep own w σ e (.arrI k n f) ↔ BRep own w σ e (.arr n 1 (tgI k f)) := by simp only [BRep]
theorem kr {own : Nat → Prop} {w : World} {σ : List SE} {e : SE} {n : Nat} {f : Nat → List UInt8} : BRep own w σ e (.arrS n f) ↔ BRep own w σ e (.arr n 1 (tgS f)) := by simp only [BRep]
structure HRep (own : Nat → Prop) (w : World) (σ : List SE) (h : Heap) : Prop where
 len : σ.length = h.length
 inj : ∀ (i j : Nat) (e f : SE) (a b : Addr), σ[i]? = some e → σ[j]? = some f → e.ad = some a → f.ad = some b → i ≠ j → a.block ≠ b.block
 lt : ∀ (i : Nat) (e : SE) (a : Addr), σ[i]? = some e → e.ad = some a → a.block < w.heap.size
 blk : ∀ (i : Nat) (e : SE) (b : Blk), σ[i]? = some e → h[i]? = some b → BRep own w σ e b
structure Ext (own : Nat → Prop) (w : World) (own' : Nat → Prop) (w' : World) : Prop where
 os : w'.os = w.os
 tape : w'.tape = w.tape
 output : w'.output = w.output
 size : w.heap.size ≤ w'.heap.size
 keep : ∀ b, b < w.heap.size → ¬ own b → w'.heap[b]? = w.heap[b]?
 grow : ∀ b, own' b → own b ∨ w.heap.size ≤ b
theorem Ext.refl (own : Nat → Prop) (w : World) : Ext own w own w := ⟨rfl, rfl, rfl, Nat.le_refl _, fun _ _ _ => rfl, fun _ h => .inl h⟩
theorem Ext.trans {o1 o2 o3 : Nat → Prop} {w1 w2 w3 : World} (h : Ext o1 w1 o2 w2) (k : Ext o2 w2 o3 w3) : Ext o1 w1 o3 w3 where
 os := k.os.trans h.os
 tape := k.tape.trans h.tape
 output := k.output.trans h.output
 size := Nat.le_trans h.size k.size
 keep b hb hn := by
  rw [k.keep b (Nat.lt_of_lt_of_le hb h.size) (fun h2 => by
   rcases h.grow b h2 with h3 | h3
   ·exact hn h3
   ·omega)]
  exact h.keep b hb hn
 grow b hb := by
  rcases k.grow b hb with h2 | h2
  ·exact h.grow b h2
  ·exact .inr (Nat.le_trans h.size h2)
theorem yF {w : World} {a : Addr} {c : Value} (h : w.cell? a = some c) : a.block < w.heap.size := by
 unfold World.cell? at h
 cases hb : w.heap[a.block]? with
 | none => simp [hb] at h
 | some o => exact (Array.getElem?_eq_some_iff.1 hb).1
theorem Ext.cell {o1 o2 : Nat → Prop} {w1 w2 : World} (h : Ext o1 w1 o2 w2) {a : Addr} {c : Value} (hn : ¬ o1 a.block) (hc : w1.cell? a = some c) : w2.cell? a = some c := by
 rw [← hc]
 exact World.cell?_of_block (h.keep a.block (yF hc) hn)
theorem Ext.uD {o1 o2 : Nat → Prop} {w1 w2 : World} (h : Ext o1 w1 o2 w2) {b : Nat} (hb : b < w1.heap.size) (hn : ¬ o1 b) : ¬ o2 b := fun h2 => by
 rcases h.grow b h2 with h3 | h3
 ·exact hn h3
 ·omega
def Hold (K : List Nat) (w : World) (σ : List SE) (w' : World) (σ' : List SE) : Prop :=
 ∀ (i : Nat) (e : SE), σ[i]? = some e → i ∉ K → σ'[i]? = some e ∧ ∀ ad, e.ad = some ad → ∀ cs el, w.heap[ad.block]? = some (.cells cs el (0, 0)) →
  ∃ cs' el', w'.heap[ad.block]? = some (.cells cs' el' (0, 0)) ∧ cs'.size = cs.size
theorem Hold.refl (K : List Nat) (w : World) (σ : List SE) : Hold K w σ w σ := fun _ _ h _ => ⟨h, fun _ _ cs el h => ⟨cs, el, h, rfl⟩⟩
mutual
def NoH (K : List Nat) : AV → Prop
 | .osl i _ _ _ => i ∉ K
 | .ptr i _ => i ∉ K
 | .eptr i _ _ _ => i ∉ K
 | .omap i => i ∉ K
 | .agg cs => NoHL K cs
 | .tup cs => NoHL K cs
 | .fn _ a b => NoHL K a ∧ NoHL K b
 | _ => True
def NoHL (K : List Nat) : List AV → Prop
 | [] => True
 | a :: l => NoH K a ∧ NoHL K l
end
section
variable {K : List Nat} {o1 o2 : Nat → Prop} {w1 w2 : World} {σ1 σ2 : List SE}
mutual
theorem zi (hx : Ext o1 w1 o2 w2) : ∀ (a : AV) (v : Value), Rep o1 w1 a [] v → Rep o2 w2 a [] v
 | .undef, _, _ => by simp [Rep]
 | .bool b, v, h => by simpa [Rep] using h
 | .int k n, v, h => by simpa [Rep] using h
 | .str s, v, h => by simpa [Rep] using h
 | .nils, v, h => by simpa [Rep] using h
 | .sl n sz get, v, h => by
  simp only [Rep] at h ⊢
  obtain ⟨a, cap, hv, hle, hr⟩ := h
  refine ⟨a, cap, hv, hle, ?_⟩
  rcases hr with hr | ⟨ad, ha, hs, hr⟩
  ·exact .inl hr
  ·refine .inr ⟨ad, ha, hs, fun j o hj ho => ?_⟩
   obtain ⟨hn, c, hc, h1, hR⟩ := hr j o hj ho
   exact ⟨hx.uD (yF (a := ⟨ad.block, _, none⟩) hc) hn, c, hx.cell (a := ⟨ad.block, _, none⟩) hn hc, h1, zi hx (get j o) c hR⟩
 | .osl i sz off n, v, h => by simp [Rep] at h
 | .ptr i off, v, h => by simp [Rep] at h
 | .nilp, v, h => by simpa [Rep] using h
 | .eptr i sz idx off, v, h => by simp [Rep] at h
 | .omap i, v, h => by simp [Rep] at h
 | .iptr m get, v, h => by
  simp only [Rep] at h ⊢
  obtain ⟨ad, hv, hs, hr⟩ := h
  refine ⟨ad, hv, hs, fun o ho => ?_⟩
  obtain ⟨hn, c, hc, hR⟩ := hr o ho
  exact ⟨hx.uD (yF (a := ⟨ad.block, _, none⟩) hc) hn, c, hx.cell (a := ⟨ad.block, _, none⟩) hn hc, zi hx (get o) c hR⟩
 | .gptr g, v, h => by simpa [Rep] using h
 | .agg cs, v, h => by
  simp only [Rep] at h ⊢
  obtain ⟨vs, hv, hr⟩ := h
  exact ⟨vs, hv, wF hx cs vs hr⟩
 | .tup cs, v, h => by
  simp only [Rep] at h ⊢
  obtain ⟨vs, hv, hr⟩ := h
  exact ⟨vs, hv, wF hx cs vs hr⟩
 | .fn f a b, v, h => by
  simp only [Rep] at h ⊢
  obtain ⟨va, vb, hv, hr, hr2⟩ := h
  exact ⟨va, vb, hv, wF hx a va hr, wF hx b vb hr2⟩
 | .nilf, v, h => by simpa [Rep] using h
 | .opt _ _ _, _, _ => by simp [Rep]
 | .mp k ag sz ks has get, v, h => by
  simp only [Rep] at h ⊢
  obtain ⟨b, es, clock, hv, hn, hlim, hb, hg⟩ := h
  have hlt : b < w1.heap.size := (Array.getElem?_eq_some_iff.1 hb).1
  refine ⟨b, es, clock, hv, hx.uD hlt hn, (by
   obtain ⟨g, h1, h2, h3⟩ := hlim
   exact ⟨g, hx.uD (yF (a := ⟨g, 0, none⟩) h3) h1, h2, hx.cell (a := ⟨g, 0, none⟩) h1 h3⟩), by rw [hx.keep b hlt hn]; exact hb, fun n => ⟨(hg n).1, fun h1 => ?_⟩⟩
  obtain ⟨i, x, h2, h3⟩ := (hg n).2 h1
  refine ⟨i, x, h2, ?_⟩
  cases ag with
  | true =>
   obtain ⟨vs, e1, e2, e3⟩ := h3
   exact ⟨vs, e1, e2, fun o ho => by
    obtain ⟨c, g1, g2⟩ := e3 o ho
    exact ⟨c, g1, zi hx (get n o) c g2⟩⟩
  | false => exact zi hx (get n 0) x h3
theorem wF (hx : Ext o1 w1 o2 w2) : ∀ (l : List AV) (vs : List Value), RepL o1 w1 l [] vs → RepL o2 w2 l [] vs
 | [], vs, h => by simpa [RepL] using h
 | a :: l, vs, h => by
  simp only [RepL] at h ⊢
  obtain ⟨v, r, hv, h1, h2⟩ := h
  exact ⟨v, r, hv, zi hx a v h1, wF hx l r h2⟩
end
mutual
theorem zS (hx : Ext o1 w1 o2 w2) (hh : Hold K w1 σ1 w2 σ2) : ∀ (a : AV) (v : Value), NoH K a → Rep o1 w1 a σ1 v → Rep o2 w2 a σ2 v
 | .undef, _, _, _ => by simp [Rep]
 | .bool b, v, _, h => by simpa [Rep] using h
 | .int k n, v, _, h => by simpa [Rep] using h
 | .str s, v, _, h => by simpa [Rep] using h
 | .nils, v, _, h => by simpa [Rep] using h
 | .sl n sz get, v, _, h => by
  have := zi hx (.sl n sz get) v (by simpa only [Rep] using h)
  simpa only [Rep] using this
 | .osl i sz off n, v, hK, h => by
  simp only [Rep, NoH] at h hK ⊢
  obtain ⟨e, he, hl, a, cap, hv, hc, hr⟩ := h
  obtain ⟨h1, h2⟩ := hh i e he hK
  refine ⟨e, h1, hl, a, cap, hv, hc, ?_⟩
  rcases hr with hr | ⟨ad, ha, hb, cs, el, hcs, hsz⟩
  ·exact .inl hr
  ·obtain ⟨cs', el', hcs', hsz'⟩ := h2 ad ha cs el hcs
   exact .inr ⟨ad, ha, hb, cs', el', hcs', by omega⟩
 | .ptr i off, v, hK, h => by
  simp only [Rep, NoH] at h hK ⊢
  obtain ⟨e, ad, he, ha, hv⟩ := h
  exact ⟨e, ad, (hh i e he hK).1, ha, hv⟩
 | .nilp, v, _, h => by simpa [Rep] using h
 | .eptr i sz idx off, v, hK, h => by
  simp only [Rep, NoH] at h hK ⊢
  obtain ⟨e, ad, he, ha, hl, hv⟩ := h
  exact ⟨e, ad, (hh i e he hK).1, ha, hl, hv⟩
 | .omap i, v, hK, h => by
  simp only [Rep, NoH] at h hK ⊢
  obtain ⟨e, ad, he, ha, hv⟩ := h
  exact ⟨e, ad, (hh i e he hK).1, ha, hv⟩
 | .iptr m get, v, _, h => by
  have := zi hx (.iptr m get) v (by simpa only [Rep] using h)
  simpa only [Rep] using this
 | .gptr g, v, _, h => by simpa [Rep] using h
 | .agg cs, v, hK, h => by
  simp only [Rep, NoH] at h hK ⊢
  obtain ⟨vs, hv, hr⟩ := h
  exact ⟨vs, hv, qv hx hh cs vs hK hr⟩
 | .tup cs, v, hK, h => by
  simp only [Rep, NoH] at h hK ⊢
  obtain ⟨vs, hv, hr⟩ := h
  exact ⟨vs, hv, qv hx hh cs vs hK hr⟩
 | .fn f a b, v, hK, h => by
  simp only [Rep, NoH] at h hK ⊢
  obtain ⟨va, vb, hv, hr, hr2⟩ := h
  exact ⟨va, vb, hv, qv hx hh a va hK.1 hr, qv hx hh b vb hK.2 hr2⟩
 | .nilf, v, _, h => by simpa [Rep] using h
 | .opt _ _ _, _, _, _ => by simp [Rep]
 | .mp k ag sz ks has get, v, _, h => by
  have := zi hx (.mp k ag sz ks has get) v (by simpa only [Rep] using h)
  simpa only [Rep] using this
theorem qv (hx : Ext o1 w1 o2 w2) (hh : Hold K w1 σ1 w2 σ2) : ∀ (l : List AV) (vs : List Value), NoHL K l → RepL o1 w1 l σ1 vs → RepL o2 w2 l σ2 vs
 | [], vs, _, h => by simpa [RepL] using h
 | a :: l, vs, hK, h => by
  simp only [RepL, NoHL] at h hK ⊢
  obtain ⟨v, r, hv, h1, h2⟩ := h
  exact ⟨v, r, hv, zS hx hh a v hK.1 h1, qv hx hh l r hK.2 h2⟩
end
theorem kA.ext (hx : Ext o1 w1 o2 w2) {ag : Bool} {sh : List SK} {get : List Sc → AV} : ∀ {es : List MapEntry} {l : List (List Sc)}, kA o1 w1 ag sh get es l → kA o2 w2 ag sh get es l
 | [], [], _ => trivial
 | e :: es, k :: ks, h => ⟨h.1, zi hx _ _ h.2.1, zi hx _ _ h.2.2.1, kA.ext hx h.2.2.2⟩
 | [], _ :: _, h => h.elim
 | _ :: _, [], h => h.elim
theorem vu.ext (h : vu o1 w1) (hx : Ext o1 w1 o2 w2) : vu o2 w2 := ⟨fun g a hz => by
 obtain ⟨h1, c, h2, h3, h4⟩ := h.at_ g a hz
 exact ⟨hx.uD (yF (a := ⟨g, 0, none⟩) h2) h1, c, hx.cell (a := ⟨g, 0, none⟩) h1 h2, zi hx a _ h3, fun b hb => Nat.lt_of_lt_of_le (h4 b hb) hx.size⟩⟩
theorem vu.own (h : vu o1 w1) (hs : ∀ b, o2 b → o1 b) : vu o2 w1 := h.ext ⟨rfl, rfl, rfl, Nat.le_refl _, fun _ _ _ => rfl, fun b hb => .inl (hs b hb)⟩
end
end Go.Sx
end

/- The operations that only compute and read: what the executor says of them is so. -/
section
namespace Go.Sx
variable [Stat]
theorem uV {α : Type} {l : List α} {o n j : Nat} {v : α} (h : ((l.drop o).take n)[j]? = some v) : l[o + j]? = some v ∧ j < n := by
 simp only [List.getElem?_take, List.getElem?_drop] at h
 split at h
 ·rename_i hj; exact ⟨h, hj⟩
 ·cases h
theorem Vf {vs : List Value} (o n : Nat) : vs.toArray.extract o (o + n) = ((vs.drop o).take n).toArray := by
 apply Array.ext'
 simp [List.extract_eq_drop_take', ← List.drop_take]
namespace Tree
theorem zl {α β : Type} {f : α → Tree β} {Q : β → Prop} : ∀ {t : Tree α}, (t.bind f).holds Q ↔ t.holds fun a => (f a).holds Q
 | .leaf a => Iff.rfl
 | .ite b t e => by simp only [bind, holds, zl (t := t), zl (t := e)]
 | .side p t => by simp only [bind, holds, zl (t := t)]
 | .ex p k => by simp only [bind, holds]; exact exists_congr fun n => and_congr Iff.rfl zl
 | .all p k => by simp only [bind, holds]; exact and_congr Iff.rfl (forall_congr' fun n => imp_congr Iff.rfl zl)
 | .fail => Iff.rfl
theorem zN {α : Type} {Q Q' : α → Prop} (h : ∀ a, Q a → Q' a) : ∀ {t : Tree α}, t.holds Q → t.holds Q'
 | .leaf a, hq => h a hq
 | .ite b t e, hq => ⟨fun hb => zN h (hq.1 hb), fun hb => zN h (hq.2 hb)⟩
 | .side p t, hq => ⟨hq.1, fun hp => zN h (hq.2 hp)⟩
 | .ex p k, hq => by obtain ⟨n, h1, h2⟩ := hq; exact ⟨n, h1, zN h h2⟩
 | .all p k, hq => ⟨hq.1, fun n hn => zN h (hq.2 n hn)⟩
 | .fail, hq => hq
theorem wS {α : Type} : ∀ {t : Tree α} {Q : α → Prop}, t.holds Q → ∃ a, Q a
 | .leaf a, Q, hq => ⟨a, hq⟩
 | .ite true t e, Q, hq => wS (hq.1 rfl)
 | .ite false t e, Q, hq => wS (hq.2 rfl)
 | .side p t, Q, hq => wS (hq.2 hq.1)
 | .ex p k, Q, hq => by
  obtain ⟨n, _, h⟩ := hq
  exact wS h
 | .all p k, Q, hq => by
  obtain ⟨n, hn⟩ := hq.1
  exact wS (hq.2 n hn)
 | .fail, Q, hq => hq.elim
end Tree
section
variable {own : Nat → Prop} {w : World} {σ : List SE}
theorem zw : ∀ {l : List AV} {vs : List Value}, RepL own w l σ vs ↔ vs.length = l.length ∧ ∀ (i : Nat) a v, l[i]? = some a → vs[i]? = some v → Rep own w a σ v
 | [], vs => by
  simp only [RepL]
  constructor
  ·rintro rfl; simp
  ·rintro ⟨h, _⟩; simpa using h
 | a :: l, vs => by
  simp only [RepL]
  constructor
  ·rintro ⟨v, r, rfl, h1, h2⟩
   obtain ⟨h3, h4⟩ := zw.1 h2
   refine ⟨by simp [h3], fun i x y hx hy => ?_⟩
   cases i with
   | zero => simp at hx hy; subst hx; subst hy; exact h1
   | succ i => simp at hx hy; exact h4 i x y hx hy
  ·rintro ⟨h1, h2⟩
   match vs, h1 with
   | v :: r, h1 =>
    refine ⟨v, r, rfl, h2 0 a v (by simp) (by simp), zw.2 ⟨by simpa using h1, fun i x y hx hy => h2 (i + 1) x y (by simpa using hx) (by simpa using hy)⟩⟩
theorem RepL.length {l : List AV} {vs : List Value} (h : RepL own w l σ vs) : vs.length = l.length := (zw.1 h).1
theorem RepL.get {l : List AV} {vs : List Value} (h : RepL own w l σ vs) {i : Nat} {a : AV} (ha : l[i]? = some a) : ∃ v, vs[i]? = some v ∧ Rep own w a σ v := by
 have hl := h.length
 have hi : i < vs.length := by rw [hl]; exact (List.getElem?_eq_some_iff.1 ha).1
 exact ⟨vs[i], by simp [hi], (zw.1 h).2 i a _ ha (by simp [hi])⟩
theorem RepL.cut {l : List AV} {vs : List Value} (h : RepL own w l σ vs) (o n : Nat) : RepL own w ((l.drop o).take n) σ ((vs.drop o).take n) := by
 have hl := h.length
 refine zw.2 ⟨by simp [hl], fun i a v ha hv => ?_⟩
 simp only [List.getElem?_take, List.getElem?_drop] at ha hv
 split at ha
 ·simp_all only [ite_true]; exact (zw.1 h).2 _ a v ha hv
 ·cases ha
theorem RepL.app {l l' : List AV} {vs vs' : List Value} (h : RepL own w l σ vs) (h' : RepL own w l' σ vs') : RepL own w (l ++ l') σ (vs ++ vs') := by
 have hl := h.length
 have hl' := h'.length
 refine zw.2 ⟨by simp [hl, hl'], fun i a v ha hv => ?_⟩
 rw [List.getElem?_append] at ha hv
 split at ha
 ·rw [if_pos (by omega)] at hv; exact (zw.1 h).2 i a v ha hv
 ·rw [if_neg (by omega), hl] at hv; exact (zw.1 h').2 _ a v ha hv
theorem RepL.drp {l : List AV} {vs : List Value} (h : RepL own w l σ vs) (o : Nat) : RepL own w (l.drop o) σ (vs.drop o) := by
 have := h.cut o (l.length - o)
 rwa [List.take_of_length_le (by simp), List.take_of_length_le (by simp [h.length])] at this
theorem RepL.tak {l : List AV} {vs : List Value} (h : RepL own w l σ vs) (n : Nat) : RepL own w (l.take n) σ (vs.take n) := by
 have := h.cut 0 n
 simpa using this
mutual
theorem qT : ∀ a : AV, NoH [] a
 | .osl .. => by simp [NoH]
 | .ptr .. => by simp [NoH]
 | .eptr .. => by simp [NoH]
 | .agg cs => by simp only [NoH]; exact j5 cs
 | .tup cs => by simp only [NoH]; exact j5 cs
 | .fn _ a b => by simp only [NoH]; exact ⟨j5 a, j5 b⟩
 | .undef => by simp [NoH]
 | .bool _ => by simp [NoH]
 | .int _ _ => by simp [NoH]
 | .str _ => by simp [NoH]
 | .nils => by simp [NoH]
 | .sl .. => by simp [NoH]
 | .nilp => by simp [NoH]
 | .iptr .. => by simp [NoH]
 | .gptr _ => by simp [NoH]
 | .nilf => by simp [NoH]
 | .opt .. => by simp [NoH]
 | .mp .. => by simp [NoH]
 | .omap _ => by simp [NoH]
theorem j5 : ∀ l : List AV, NoHL [] l
 | [] => by simp [NoHL]
 | a :: l => by simp only [NoHL]; exact ⟨qT a, j5 l⟩
end
theorem Rep.any {a : AV} {v : Value} (h : Rep own w a [] v) (σ : List SE) : Rep own w a σ v :=
 zS (K := []) (Ext.refl own w) (fun i e he => by simp at he) a v (qT a) h
theorem RepL.any {a : List AV} {v : List Value} (h : RepL own w a [] v) (σ : List SE) : RepL own w a σ v :=
 qv (K := []) (Ext.refl own w) (fun i e he => by simp at he) a v (j5 a) h
variable {P : Program}
theorem xa {t : TypeId} {a : Bool} (h : jo P t = some a) : (isAgg t).run P w = .ok a w := by
 unfold jo at h
 cases hu : P.underlying t with
 | none => simp [hu] at h
 | some d =>
  simp only [isAgg, Sem.run_bind, run_underlying hu, Result.andThen_ok]
  cases d <;> simp_all
theorem z1 {t : TypeId} {n : Nat} (h : zW P t = some n) : (sizeOf t).run P w = .ok n w := by
 unfold zW at h
 cases hi : P.info? t with
 | none => simp [hi] at h
 | some i =>
  simp [hi] at h
  rw [run_sizeOf w hi, Program.cellsOf, hi]
  simp [h]
theorem xT {b : Bool} {cs : List AV} {vs : List Value} {Q : AV → Prop} (hr : RepL own w cs σ vs) (h : (jV b cs).holds Q) :
  ∃ r v, Q r ∧ Rep own w r σ v ∧ (b = true → v = .agg vs.toArray) ∧ (b = false → vs = [v]) := by
 unfold jV at h
 cases b with
 | true =>
  simp only [if_true, Tree.holds] at h
  exact ⟨_, .agg vs.toArray, h, by simp only [Rep]; exact ⟨vs, rfl, hr⟩, fun _ => rfl, (fun h => by cases h)⟩
 | false =>
  simp only [Bool.false_eq_true, if_false] at h
  match cs, h with
  | [c], h =>
   simp only [RepL] at hr
   obtain ⟨v, r, rfl, h1, rfl⟩ := hr
   exact ⟨c, v, h, h1, (fun h => by cases h), fun _ => rfl⟩
  | [], h => exact h.elim
  | _ :: _ :: _, h => exact h.elim
theorem jW {t : TypeId} {b : Bool} {n : Nat} {bl off : Nat} {cs : List AV} {vs : List Value} {Q : AV → Prop} (ht : jo P t = some b) (hn : zW P t = some n)
  (hl : vs.length = n) (hc : ∀ j v, vs[j]? = some v → w.cell? ⟨bl, off + j, none⟩ = some v) (hr : RepL own w cs σ vs) (h : (jV b cs).holds Q) :
  ∃ r v, (loadVar t ⟨bl, off, none⟩).run P w = .ok v w ∧ Q r ∧ Rep own w r σ v := by
 obtain ⟨r, v, hq, hR, h1, h2⟩ := xT hr h
 refine ⟨r, v, ?_, hq, hR⟩
 simp only [loadVar, Sem.run_bind, xa ht, Result.andThen_ok]
 have hadd : ∀ j, (⟨bl, off, none⟩ : Addr).add j = ⟨bl, off + j, none⟩ := fun j => by unfold Addr.add; split <;> simp_all
 cases b with
 | true =>
  have hld := run_loadCells_list (P := P) w ⟨bl, off, none⟩ vs (fun j v hv => by rw [hadd]; exact hc j v hv)
  rw [hl] at hld
  simp only [if_true, Sem.run_bind, z1 hn, Result.andThen_ok, hld, Sem.run_pure, h1 rfl]
 | false =>
  have := h2 rfl
  subst this
  have := hc 0 v (by simp)
  simp only [Nat.add_zero] at this
  simp [this]
theorem vS {b : Nat} {cs : Array Value} {el : TypeId} {fr : Nat × Nat} {o : Nat} {v : Value} (h : w.heap[b]? = some (.cells cs el fr)) (hv : cs[o]? = some v) : w.cell? ⟨b, o, none⟩ = some v := by
 simp [World.cell?, h, hv]
theorem Zz {t : TypeId} {e : SE} {ad : Addr} {n' sz idx off n : Nat} {b : Bool} {g : Nat → Nat → AV} {Q : AV → Prop} (hblk : BRep own w σ e (.arr n' sz g)) (had : e.ad = some ad) (hidx : idx < e.n) (ht : jo P t = some b) (hn : zW P t = some n) (hle : off + n ≤ sz)
  (hq : (jV b ((List.range n).map fun o => g idx (off + o))).holds Q) : ∃ r v, (Instr.loadAt t (.pointer (some ⟨ad.block, ad.off + (idx * sz + off), none⟩))).run P w = .ok v w ∧ Q r ∧ Rep own w r σ v := by
 simp only [BRep] at hblk
 obtain ⟨hen, hz | ⟨ad', cs, el, had', hcs, hsz, hr⟩⟩ := hblk
 ·omega
 rw [had] at had'
 cases had'
 have hex : ∀ o, o < n → ∃ c, cs[ad.off + (idx * sz + off) + o]? = some c ∧ Rep own w (g idx (off + o)) [] c := fun o ho => by
  obtain ⟨c, h1, _, h2⟩ := hr idx (off + o) (by omega) (by omega)
  exact ⟨c, by rw [← h1]; congr 1; omega, h2⟩
 obtain ⟨f, hf⟩ := Classical.axiomOfChoice (r := fun (o : Nat) c => o < n → cs[ad.off + (idx * sz + off) + o]? = some c ∧ Rep own w (g idx (off + o)) [] c)
  (fun o => by
   by_cases ho : o < n
   ·obtain ⟨c, hc⟩ := hex o ho; exact ⟨c, fun _ => hc⟩
   ·exact ⟨undef, fun h => absurd h ho⟩)
 obtain ⟨r, v, h1, h2, h3⟩ := jW (P := P) (σ := σ) (bl := ad.block) (off := ad.off + (idx * sz + off)) ht hn (vs := (List.range n).map f) (by simp)
  (fun j v hv => by
   simp only [List.getElem?_map, List.getElem?_range] at hv
   by_cases hj : j < n
   ·simp [hj] at hv; subst hv; exact vS hcs (hf j hj).1
   ·simp [hj] at hv)
  (cs := (List.range n).map fun o => g idx (off + o)) (zw.2 ⟨by simp, fun j a v ha hv => by
   by_cases hj : j < n
   ·simp [hj] at ha hv; subst ha; subst hv; exact (hf j hj).2.any σ
   ·simp [hj] at ha⟩) hq
 refine ⟨r, v, ?_, h2, h3⟩
 simp only [Instr.loadAt, Instr.sureAddr, Sem.run_bind, Sem.run_pure, Result.andThen_ok]
 exact h1
theorem Zp {h : Heap} (hh : HRep own w σ h) {t : TypeId} {a : AV} {va : Value} {Q : AV → Prop} (ha : Rep own w a σ va) (hq : (uM P h t a).holds Q) :
  ∃ r v, (Instr.loadAt t va).run P w = .ok v w ∧ Q r ∧ Rep own w r σ v := by
 cases a with
 | ptr i off =>
  simp only [Rep] at ha
  obtain ⟨e, ad, he, had, rfl⟩ := ha
  simp only [uM] at hq
  split at hq
  ·rename_i cells b n hb ht hn
   split at hq
   ·rename_i hle
    obtain ⟨ad', vs, el, had', h0, hcs, hr⟩ := hh.blk i e _ he hb
    rw [had] at had'
    cases had'
    have hlen := hr.length
    obtain ⟨r, v, h1, h2, h3⟩ := jW (P := P) (bl := ad.block) (off := off) ht hn (vs := (vs.drop off).take n) (by simp; omega)
     (fun j v hv => vS hcs (by simpa using (uV hv).1)) (hr.cut off n) hq
    refine ⟨r, v, ?_, h2, h3⟩
    simp only [Instr.loadAt, Instr.sureAddr, Sem.run_bind, Sem.run_pure, Result.andThen_ok, h0, Nat.zero_add]
    exact h1
   ·exact hq.elim
  ·exact hq.elim
 | eptr i sz idx off =>
  simp only [Rep] at ha
  obtain ⟨e, ad, he, had, hidx, rfl⟩ := ha
  simp only [uM] at hq
  split at hq
  ·rename_i n' sz' g b n hb ht hn
   split at hq
   ·rename_i hle
    obtain ⟨rfl, hle⟩ := hle
    exact Zz (hh.blk i e _ he hb) had hidx ht hn hle hq
   ·exact hq.elim
  ·rename_i k n' f hb ht hn
   split at hq
   ·rename_i hle
    obtain ⟨rfl, rfl⟩ := hle
    exact Zz (b := false) (n := 1) (g := tgI k f) (kj.1 (hh.blk i e _ he hb)) had hidx ht hn (Nat.le_refl _) hq
   ·exact hq.elim
  ·rename_i n' f hb ht hn
   split at hq
   ·rename_i hle
    obtain ⟨rfl, rfl⟩ := hle
    exact Zz (b := false) (n := 1) (g := tgS f) (kr.1 (hh.blk i e _ he hb)) had hidx ht hn (Nat.le_refl _) hq
   ·exact hq.elim
  ·rename_i cells b n hb ht hn
   split at hq
   ·rename_i hle
    obtain ⟨ad', vs, el, had', h0, hcs, hr⟩ := hh.blk i e _ he hb
    rw [had] at had'
    cases had'
    have hlen := hr.length
    obtain ⟨r, v, h1, h2, h3⟩ := jW (P := P) (bl := ad.block) (off := idx * sz + off) ht hn (vs := (vs.drop (idx * sz + off)).take n) (by simp; omega)
     (fun j v hv => vS hcs (by simpa using (uV hv).1)) (hr.cut (idx * sz + off) n) hq
    refine ⟨r, v, ?_, h2, h3⟩
    simp only [Instr.loadAt, Instr.sureAddr, Sem.run_bind, Sem.run_pure, Result.andThen_ok, h0, Nat.zero_add]
    exact h1
   ·exact hq.elim
  ·exact hq.elim
 | iptr m g =>
  simp only [Rep] at ha
  obtain ⟨ad, rfl, hs, hr⟩ := ha
  simp only [uM] at hq
  split at hq
  ·rename_i b n ht hn
   split at hq
   ·rename_i hle
    obtain ⟨f, hf⟩ := Classical.axiomOfChoice (r := fun (o : Nat) c => o < n → w.cell? ⟨ad.block, ad.off + o, none⟩ = some c ∧ Rep own w (g o) [] c)
     (fun o => by
      by_cases ho : o < n
      ·obtain ⟨_, c, hc⟩ := hr o (by omega); exact ⟨c, fun _ => hc⟩
      ·exact ⟨undef, fun h => absurd h ho⟩)
    obtain ⟨r, v, h1, h2, h3⟩ := jW (P := P) (σ := σ) (bl := ad.block) (off := ad.off) ht hn (vs := (List.range n).map f) (by simp)
     (fun j v hv => by
      by_cases hj : j < n
      ·simp [hj] at hv; subst hv; exact (hf j hj).1
      ·simp [hj] at hv)
     (cs := (List.range n).map g) (zw.2 ⟨by simp, fun j a v ha hv => by
      by_cases hj : j < n
      ·simp [hj] at ha hv; subst ha; subst hv; exact (hf j hj).2.any σ
      ·simp [hj] at ha⟩) hq
    refine ⟨r, v, ?_, h2, h3⟩
    have : ad = ⟨ad.block, ad.off, none⟩ := by cases ad; simp_all
    simp only [Instr.loadAt, Instr.sureAddr, Sem.run_bind, Sem.run_pure, Result.andThen_ok]
    rw [this]
    exact h1
   ·exact hq.elim
  ·exact hq.elim
 | _ => exact hq.elim
end
end Go.Sx
end

/- The other operations that only compute and read. -/
section
namespace Go.Sx
variable [Stat]
theorem vB {k : IntKind} {n : Int} (h : inR k n) : k.wrap n = n := by
 unfold inR at h
 cases k <;> simp only [lo, hi] at h <;> simp [IntKind.wrap, IntKind.bits, IntKind.signed] <;> omega
section
variable {own : Nat → Prop} {w : World} {σ : List SE} {P : Program}
theorem add_plain {a : Addr} (h : a.spot = none) (n : Nat) : a.add n = ⟨a.block, a.off + n, none⟩ := by
 cases a; simp at h; subst h; unfold Addr.add; split <;> simp_all
theorem V8 {d : Nat} {a : AV} {va : Value} {Q : AV → Prop} (ha : Rep own w a σ va) (hq : (Xc d a).holds Q) :
  ∃ ad r, va = .pointer (some ad) ∧ ad.spot = none ∧ Q r ∧ Rep own w r σ (.pointer (some (ad.add d))) := by
 cases a with
 | ptr i off =>
  simp only [Rep] at ha
  obtain ⟨e, ad, he, had, rfl⟩ := ha
  refine ⟨_, _, rfl, rfl, hq, ?_⟩
  simp only [Rep]
  exact ⟨e, ad, he, had, by rw [add_plain rfl]; simp [Nat.add_assoc]⟩
 | eptr i sz idx off =>
  simp only [Rep] at ha
  obtain ⟨e, ad, he, had, hl, rfl⟩ := ha
  refine ⟨_, _, rfl, rfl, hq, ?_⟩
  simp only [Rep]
  exact ⟨e, ad, he, had, hl, by rw [add_plain rfl]; simp [Nat.add_assoc]⟩
 | iptr m g =>
  simp only [Rep] at ha
  obtain ⟨ad, rfl, hs, hr⟩ := ha
  simp only [Xc] at hq
  split at hq
  ·rename_i hle
   refine ⟨_, _, rfl, hs, hq, ?_⟩
   simp only [Rep]
   refine ⟨_, rfl, by rw [add_plain hs], fun o ho => ?_⟩
   obtain ⟨h1, c, h2, h3⟩ := hr (d + o) (by omega)
   rw [add_plain hs]
   exact ⟨h1, c, by simpa [Nat.add_assoc] using h2, by simpa [atG] using h3⟩
  ·exact hq.elim
 | _ => exact hq.elim
theorem xx {s : TypeId} {f o ft n : Nat} (h : kR P s f = some (o, ft, n)) :
  ∃ fs fld, P.underlying s = some (.struct fs) ∧ fs[f]? = some fld ∧ fld.offset = o ∧ fld.type = ft ∧ zW P ft = some n ∧ n ≠ 0 := by
 unfold kR at h
 split at h
 ·rename_i fs hu
  split at h
  ·rename_i fld hf
   split at h
   ·rename_i i hi
    split at h
    ·cases h
    ·rename_i hz
     simp only [Option.some.injEq, Prod.mk.injEq] at h
     obtain ⟨rfl, rfl, rfl⟩ := h
     exact ⟨fs, fld, hu, hf, rfl, rfl, by simp [zW, hi], hz⟩
   ·cases h
  ·cases h
 ·cases h
theorem uT {t f : Nat} {o ft n : Nat} {a : AV} {va : Value} {Q : AV → Prop} (hf : kR P t f = some (o, ft, n)) (ha : Rep own w a σ va) (hq : (Xc o a).holds Q) :
  ∃ r v, (Instr.fieldAt t va f).run P w = .ok v w ∧ Q r ∧ Rep own w r σ v := by
 obtain ⟨fs, fld, hu, hfl, rfl, rfl, hs, hz⟩ := xx hf
 obtain ⟨ad, r, rfl, hsp, hQ, hR⟩ := V8 ha hq
 refine ⟨r, _, ?_, hQ, hR⟩
 simp only [Instr.fieldAt, Sem.run_bind, run_underlying hu, Result.andThen_ok, hfl, Instr.sureAddr, Sem.run_pure, fieldPlace, z1 hs, Sem.run_ite, if_neg hz]
theorem Wr {t f : Nat} {a : AV} {va : Value} {Q : AV → Prop} (ha : Rep own w a σ va) (hq : (KH P t f a).holds Q) :
  ∃ r v, (Instr.field t va f).run P w = .ok v w ∧ Q r ∧ Rep own w r σ v := by
 cases a with
 | agg cs =>
  simp only [Rep] at ha
  obtain ⟨vs, rfl, hr⟩ := ha
  simp only [KH] at hq
  split at hq
  ·rename_i o ft n hf
   split at hq
   ·rename_i b hb
    split at hq
    ·rename_i hle
     obtain ⟨fs, fld, hu, hfl, rfl, rfl, hs, hz⟩ := xx hf
     obtain ⟨r, v, hQ, hR, h1, h2⟩ := xT (hr.cut fld.offset n) hq
     refine ⟨r, v, ?_, hQ, hR⟩
     simp only [Instr.field, Sem.run_bind, run_underlying hu, Result.andThen_ok, hfl, asAgg, Sem.run_pure, part, xa hb]
     cases b with
     | true =>
      simp only [if_true, Sem.run_bind, z1 hs, Result.andThen_ok, Sem.run_pure, h1 rfl]
      congr 2
      apply Array.ext'
      simp [List.extract_eq_drop_take', ← List.drop_take]
     | false =>
      have h3 := h2 rfl
      have h4 : ((vs.drop fld.offset).take n)[0]? = some v := by rw [h3]; rfl
      have h5 := (uV h4).1
      simp only [Nat.add_zero] at h5
      simp [h5]
    ·exact hq.elim
   ·exact hq.elim
  ·exact hq.elim
 | _ => exact hq.elim
theorem Q0 {i : Nat} {a : AV} {va : Value} {Q : AV → Prop} (ha : Rep own w a σ va) (hq : (Z6 i a).holds Q) :
  ∃ r v, (Instr.extract va i).run P w = .ok v w ∧ Q r ∧ Rep own w r σ v := by
 cases a with
 | tup cs =>
  simp only [Rep] at ha
  obtain ⟨vs, rfl, hr⟩ := ha
  simp only [Z6] at hq
  split at hq
  ·rename_i c hc
   obtain ⟨v, hv, hR⟩ := hr.get hc
   exact ⟨c, v, by simp [Instr.extract, hv], hq, hR⟩
  ·exact hq.elim
 | _ => exact hq.elim
theorem JC {op : BinOp} {k : IntKind} {x y : Int} {t : TypeId} {Q : AV → Prop} (hq : (Vw op k x y).holds Q) :
  ∃ r v, (binOp op t (.int k x) (.int k y)).run P w = .ok v w ∧ Q r ∧ Rep own w r σ v := by
 cases op <;> simp only [Vw, Tree.holds] at hq
 case add => obtain ⟨h1, h2⟩ := hq; exact ⟨_, .int k (x + y), by simp [binOp, Op.intArith, vB h1], h2 h1, by simp [Rep]⟩
 case sub => obtain ⟨h1, h2⟩ := hq; exact ⟨_, .int k (x - y), by simp [binOp, Op.intArith, vB h1], h2 h1, by simp [Rep]⟩
 case mul => obtain ⟨h1, h2⟩ := hq; exact ⟨_, .int k (x * y), by simp [binOp, Op.intArith, vB h1], h2 h1, by simp [Rep]⟩
 case quo => obtain ⟨h1, h2⟩ := hq; exact ⟨_, .int k (x.tdiv y), by simp [binOp, Op.intDiv, h1.1, vB h1.2], h2 h1, by simp [Rep]⟩
 case rem => obtain ⟨h1, h2⟩ := hq; exact ⟨_, .int k (x.tmod y), by simp [binOp, Op.intDiv, h1], h2 h1, by simp [Rep]⟩
 case eql => exact ⟨_, _, by simp [binOp, Op.intCmp]; rfl, hq, by simp only [Rep]; congr 1⟩
 case neq => exact ⟨_, _, by simp [binOp, Op.intCmp]; rfl, hq, by simp only [Rep]; congr 1⟩
 case lss => exact ⟨_, _, by simp [binOp, Op.intCmp]; rfl, hq, by simp [Rep]⟩
 case leq => exact ⟨_, _, by simp [binOp, Op.intCmp]; rfl, hq, by simp [Rep]⟩
 case gtr => exact ⟨_, _, by simp [binOp, Op.intCmp]; rfl, hq, by simp [Rep]⟩
 case geq => exact ⟨_, _, by simp [binOp, Op.intCmp]; rfl, hq, by simp [Rep]⟩
theorem J5 {op : BinOp} {x y : List UInt8} {t : TypeId} {Q : AV → Prop} (hq : (V9 op x y).holds Q) :
  ∃ r v, (binOp op t (.string ⟨x.toArray⟩) (.string ⟨y.toArray⟩)).run P w = .ok v w ∧ Q r ∧ Rep own w r σ v := by
 have he : (x == y) = decide (x = y) := by by_cases h : x = y <;> simp [h]
 cases op <;> simp only [V9, Tree.holds] at hq
 case add =>
  obtain ⟨h1, h2⟩ := hq
  refine ⟨_, .string ⟨(x ++ y).toArray⟩, ?_, h2 h1, by simp [Rep]⟩
  have hs : ¬ ((((⟨x.toArray⟩ : ByteArray).size + (⟨y.toArray⟩ : ByteArray).size : Nat) : Int) > IntKind.i64.max) := by
   have e1 : (⟨x.toArray⟩ : ByteArray).size = x.length := by simp [ByteArray.size]
   have e2 : (⟨y.toArray⟩ : ByteArray).size = y.length := by simp [ByteArray.size]
   rw [e1, e2]; simp [IntKind.max, IntKind.signed, IntKind.bits]; omega
  simp only [binOp, Op.stringOp, if_neg hs, Sem.run_pure]
  congr 2
 case eql => exact ⟨_, _, by simp [binOp, Op.stringOp]; rfl, hq, by simp only [Rep, he]⟩
 case neq => exact ⟨_, _, by simp [binOp, Op.stringOp]; rfl, hq, by simp only [Rep, he]⟩
 case lss => exact ⟨_, _, by simp [binOp, Op.stringOp]; rfl, hq, by simp [Rep]⟩
 case leq => exact ⟨_, _, by simp [binOp, Op.stringOp]; rfl, hq, by simp only [Rep, he]⟩
 case gtr => exact ⟨_, .bool (!(Op.bytesLess x y || decide (x = y))), by simp only [binOp, Op.stringOp, Sem.run_pure, ByteArray.toList_mk, he], hq, by simp only [Rep]⟩
 case geq => exact ⟨_, _, by simp [binOp, Op.stringOp]; rfl, hq, by simp [Rep]⟩
theorem run_equalIn_bool {t : TypeId} (hu : P.underlying t = some .bool) (d : Nat) (a b : Bool) : (Op.equalIn (d + 1) t (.bool a) (.bool b)).run P w = .ok (a == b) w := by
 simp [Op.equalIn, run_underlying hu]
theorem run_equal_bool {t : TypeId} (hu : P.underlying t = some .bool) (a b : Bool) : (Op.equal t (.bool a) (.bool b)).run P w = .ok (a == b) w := run_equalIn_bool hu 9999 a b
theorem qV {ft off : Nat} {vs : Array Value} {v : Value} (h : jo P ft = some false) (hv : vs[off]? = some v) : (part ft vs off).run P w = .ok v w := by
 simp only [part, Sem.run_bind, xa h, Result.andThen_ok, Bool.false_eq_true, if_false, hv, Sem.run_pure]
theorem qP {as bs : List AV} {va vb : Array Value} (d : Nat) (ha : RepL own w as σ va.toList) (hb : RepL own w bs σ vb.toList) : ∀ {fs : List Field} {r : Bool}, jy P as bs fs = some r → (Op.eqFields (d + 1) va vb fs).run P w = .ok r w
 | [], r, h => by
  simp only [jy, Option.some.injEq] at h
  subst h; simp [Op.eqFields]
 | f :: fs, r, h => by
  simp only [jy] at h
  simp only [Op.eqFields]
  split at h
  ·rename_i hn
   rw [if_pos hn]
   split at h
   ·rename_i k x k1 k2 y hg hu h1 h2
    split at h
    ·rename_i hk
     subst hk
     split at h
     ·rename_i r' hr
      simp only [Option.some.injEq] at h
      obtain ⟨u, hu1, hu2⟩ := ha.get h1
      obtain ⟨u', hu3, hu4⟩ := hb.get h2
      simp only [Rep] at hu2 hu4
      subst hu2; subst hu4
      simp only [Sem.run_bind, qV hg (by simpa using hu1), qV hg (by simpa using hu3), Result.andThen_ok, run_equalIn_int _ _ _ _ _ _ _ hu]
      have ih := qP d ha hb hr
      subst h
      by_cases hxy : k1 = y
      ·subst hxy; simp [ih]
      ·simp [hxy]
     ·cases h
    ·cases h
   ·rename_i x y hg hu h1 h2
    split at h
    ·rename_i r' hr
     simp only [Option.some.injEq] at h
     obtain ⟨u, hu1, hu2⟩ := ha.get h1
     obtain ⟨u', hu3, hu4⟩ := hb.get h2
     simp only [Rep] at hu2 hu4
     subst hu2; subst hu4
     simp only [Sem.run_bind, qV hg (by simpa using hu1), qV hg (by simpa using hu3), Result.andThen_ok, run_equalIn_string _ _ _ _ _ hu]
     have ih := qP d ha hb hr
     subst h
     by_cases hxy : x = y
     ·subst hxy; simp [ih]
     ·simp [hxy]
    ·cases h
   ·rename_i x y hg hu h1 h2
    split at h
    ·rename_i r' hr
     simp only [Option.some.injEq] at h
     obtain ⟨u, hu1, hu2⟩ := ha.get h1
     obtain ⟨u', hu3, hu4⟩ := hb.get h2
     simp only [Rep] at hu2 hu4
     subst hu2; subst hu4
     simp only [Sem.run_bind, qV hg (by simpa using hu1), qV hg (by simpa using hu3), Result.andThen_ok, run_equalIn_bool hu]
     have ih := qP d ha hb hr
     subst h
     cases x <;> cases y <;> simp [ih]
    ·cases h
   ·cases h
  ·rename_i hn
   rw [if_neg hn]
   exact qP d ha hb h
theorem yu {op : BinOp} {t : TypeId} {x y : Operand} {n cap : Nat} {p : Option Addr} {Q : AV → Prop} (hq : (uY P op t n).holds Q) (hp : 0 < n → p.isNone = false) :
  ∃ r v, (do eqGuard op t x y (.slice p n cap) (.slice none 0 0); binOp op t (.slice p n cap) (.slice none 0 0) : Sem Value).run P w = .ok v w ∧ Q r ∧ Rep own w r σ v := by
 simp only [uY] at hq
 split at hq
 ·rename_i e hu
  have hrun : ∀ d, (Op.equalIn (d + 1) t (.slice p n cap) (.slice none 0 0)).run P w = .ok p.isNone w := fun d => by cases p <;> simp [Op.equalIn, run_underlying hu]
  split at hq
  ·refine ⟨_, .bool p.isNone, ?_, hq.2 p.isNone hp, by simp [Rep]⟩
   rw [Sem.run_bind]
   simp only [eqGuard, binOp]
   simp [Op.equal, Op.maxDepth, hrun 9999]
  ·refine ⟨_, .bool (!p.isNone), ?_, hq.2 (!p.isNone) (fun h => by rw [hp h]; rfl), by simp [Rep]⟩
   rw [Sem.run_bind]
   simp only [eqGuard, binOp]
   simp [Op.equal, Op.maxDepth, hrun 9999]
  ·exact hq.elim
 ·exact hq.elim
theorem Yl {op : BinOp} {t : TypeId} {x y : Operand} {a b : AV} {va vb : Value} {Q : AV → Prop} (ha : Rep own w a σ va) (hb : Rep own w b σ vb) (hq : (binX P op t a b).holds Q) :
  ∃ r v, (do eqGuard op t x y va vb; binOp op t va vb : Sem Value).run P w = .ok v w ∧ Q r ∧ Rep own w r σ v := by
 cases a with
 | int k n =>
  cases b with
  | int k' n' =>
   simp only [Rep] at ha hb
   subst ha; subst hb
   simp only [binX] at hq
   split at hq
   ·rename_i hk; subst hk
    obtain ⟨r, v, h1, h2⟩ := JC (P := P) (own := own) (w := w) (σ := σ) (t := t) hq
    refine ⟨r, v, ?_, h2⟩
    rw [Sem.run_bind]
    cases op <;> simp [eqGuard] <;> exact h1
   ·exact hq.elim
  | _ => exact hq.elim
 | str s =>
  cases b with
  | str s' =>
   simp only [Rep] at ha hb
   subst ha; subst hb
   obtain ⟨r, v, h1, h2⟩ := J5 (P := P) (own := own) (w := w) (σ := σ) (t := t) hq
   refine ⟨r, v, ?_, h2⟩
   rw [Sem.run_bind]
   cases op <;> simp [eqGuard] <;> exact h1
  | _ => exact hq.elim
 | bool p =>
  cases b with
  | bool p' =>
   simp only [Rep] at ha hb
   subst ha; subst hb
   simp only [binX] at hq
   split at hq
   ·rename_i hu
    exact ⟨_, .bool (p == p'), by simp only [eqGuard, binOp, Sem.run_bind, run_equal_bool hu, Result.andThen_ok, Sem.run_pure]; rfl, hq, by simp [Rep]⟩
   ·rename_i hu
    exact ⟨_, .bool (!(p == p')), by simp only [eqGuard, binOp, Sem.run_bind, run_equal_bool hu, Result.andThen_ok, Sem.run_pure]; rfl, hq, by simp [Rep]⟩
   ·exact hq.elim
  | _ => exact hq.elim
 | agg as =>
  cases b with
  | agg bs =>
   simp only [Rep] at ha hb
   obtain ⟨vs, rfl, hr⟩ := ha
   obtain ⟨us, rfl, hs⟩ := hb
   simp only [binX] at hq
   split at hq
   ·rename_i fs hu
    split at hq
    ·rename_i hg
     split at hq
     ·rename_i r he
      have hfs : P.fieldsOf t = fs := by simp [Program.fieldsOf, hu]
      have hrun := qP (w := w) (va := vs.toArray) (vb := us.toArray) 9998 (by simpa using hr) (by simpa using hs) he
      have heq : (Op.equalIn 10000 t (.agg vs.toArray) (.agg us.toArray)).run P w = .ok r w := by
       rw [run_equalIn_struct w 9999 t vs.toArray us.toArray (by rw [hfs]; exact hu) hg.1, hfs]; exact hrun
      rw [Sem.run_bind, run_eqGuard_agg w op t x y vs.toArray us.toArray hg.2, Result.andThen_ok]
      split at hq
      ·exact ⟨_, .bool r, by rw [run_eql_struct, heq]; rfl, hq, by simp [Rep]⟩
      ·exact ⟨_, .bool (!r), by rw [run_neq_struct, heq]; rfl, hq, by simp [Rep]⟩
      ·exact hq.elim
     ·exact hq.elim
    ·exact hq.elim
   ·exact hq.elim
  | _ => exact hq.elim
 | sl n sz g =>
  cases b with
  | nils =>
   simp only [Rep] at ha hb
   subst hb
   obtain ⟨p, cap, rfl, hle, hr⟩ := ha
   refine yu hq fun h0 => ?_
   rcases hr with hr | ⟨ad, rfl, _⟩
   ·omega
   ·rfl
  | _ => exact hq.elim
 | osl i sz off n =>
  cases b with
  | nils =>
   simp only [Rep] at ha hb
   subst hb
   obtain ⟨e, _, _, p, cap, rfl, hle, hr⟩ := ha
   refine yu hq fun h0 => ?_
   rcases hr with hr | ⟨ad, _, rfl, _⟩
   ·omega
   ·rfl
  | _ => exact hq.elim
 | _ => exact hq.elim
theorem zb7 {op : UnOp} {a : AV} {va : Value} {Q : AV → Prop} (ha : Rep own w a σ va) (hq : (unX op a).holds Q) :
  ∃ r v, (Op.unary op va).run P w = .ok v w ∧ Q r ∧ Rep own w r σ v := by
 cases a with
 | bool b =>
  simp only [Rep] at ha; subst ha
  simp only [unX] at hq
  split at hq
  ·exact ⟨_, _, by simp [Op.unary]; rfl, hq, by simp [Rep]⟩
  ·exact hq.elim
 | int k n =>
  simp only [Rep] at ha; subst ha
  simp only [unX] at hq
  split at hq
  ·obtain ⟨h1, h2⟩ := hq
   exact ⟨_, _, by simp [Op.unary, Op.intArith, vB h1]; rfl, h2 h1, by simp [Rep]⟩
  ·exact hq.elim
 | _ => exact hq.elim
theorem XZ {t : TypeId} {ty : TypeId} {a : AV} {va : Value} {Q : AV → Prop} (ha : Rep own w a σ va) (hq : (lenX P t a).holds Q) :
  ∃ r v, (Builtin.len_ #[t] ty #[va]).run P w = .ok v w ∧ Q r ∧ Rep own w r σ v := by
 cases a with
 | str s =>
  simp only [Rep] at ha; subst ha
  simp only [lenX] at hq
  split at hq
  ·rename_i hu
   exact ⟨_, _, by simp [Builtin.len_, run_underlying hu, goInt]; rfl, hq, by simp [Rep, ByteArray.size]⟩
  ·exact hq.elim
 | nils =>
  simp only [Rep] at ha; subst ha
  simp only [lenX] at hq
  split at hq
  ·rename_i hu
   exact ⟨_, _, by simp [Builtin.len_, run_underlying hu, goInt]; rfl, hq, by simp [Rep]⟩
  ·exact hq.elim
 | sl n sz g =>
  simp only [Rep] at ha
  obtain ⟨a, cap, rfl, _⟩ := ha
  simp only [lenX] at hq
  split at hq
  ·rename_i hu
   exact ⟨_, _, by simp [Builtin.len_, run_underlying hu, goInt]; rfl, hq, by simp [Rep]⟩
  ·exact hq.elim
 | osl i sz off n =>
  simp only [Rep] at ha
  obtain ⟨e, he, hl, a, cap, rfl, _⟩ := ha
  simp only [lenX] at hq
  split at hq
  ·rename_i hu
   exact ⟨_, _, by simp [Builtin.len_, run_underlying hu, goInt]; rfl, hq, by simp [Rep]⟩
  ·exact hq.elim
 | _ => exact hq.elim
theorem w9 {s : Bool} {n cap : Nat} {l h : Option AV} {vl vh : Option Value} {Q : Nat × Nat → Prop}
  (hl : ∀ a, l = some a → ∃ v, vl = some v ∧ Rep own w a σ v) (hl0 : l = none → vl = none) (hh : ∀ a, h = some a → ∃ v, vh = some v ∧ Rep own w a σ v) (hh0 : h = none → vh = none)
  (hc : n ≤ cap) (hq : (yq n l h).holds Q) :
  ∃ a b, (Instr.sliceBounds s n cap vl vh none).run P w = .ok (a, b, cap) w ∧ Q (a, b) ∧ a ≤ b ∧ b ≤ n := by
 cases l with
 | none =>
  rw [hl0 rfl]
  cases h with
  | none =>
   rw [hh0 rfl]
   exact ⟨0, n, by simp [Instr.sliceBounds], hq, by omega, by omega⟩
  | some b =>
   obtain ⟨v, rfl, hv⟩ := hh b rfl
   cases b <;> try exact hq.elim
   rename_i k m
   simp only [Rep] at hv; subst hv
   obtain ⟨h1, h2⟩ := hq
   refine ⟨0, m.toNat, ?_, h2 h1, by omega, by omega⟩
   have : 0 ≤ m ∧ m ≤ cap := by omega
   simp [Instr.sliceBounds, Instr.sliceBound, asIntOf, this]
 | some a =>
  obtain ⟨va, rfl, hva⟩ := hl a rfl
  cases h with
  | none =>
   rw [hh0 rfl]
   cases a <;> try exact hq.elim
   rename_i k m
   simp only [Rep] at hva; subst hva
   obtain ⟨h1, h2⟩ := hq
   refine ⟨m.toNat, n, ?_, h2 h1, by omega, by omega⟩
   simp [Instr.sliceBounds, Instr.sliceBound, asIntOf, h1]
  | some b =>
   obtain ⟨v, rfl, hv⟩ := hh b rfl
   cases a <;> try exact hq.elim
   rename_i k m
   cases b <;> try exact hq.elim
   rename_i k' m'
   simp only [Rep] at hva hv; subst hva; subst hv
   obtain ⟨h1, h2⟩ := hq
   refine ⟨m.toNat, m'.toNat, ?_, h2 h1, by omega, by omega⟩
   have e1 : 0 ≤ m' ∧ m' ≤ cap := by omega
   have e2 : 0 ≤ m ∧ m ≤ (m'.toNat : Int) := by omega
   simp [Instr.sliceBounds, Instr.sliceBound, asIntOf, e1, e2]
   intro h; omega
end
end Go.Sx
end

/- Slices, indexes, conversions, composite literals; and all value operations in one. -/
section
namespace Go.Sx
variable [Stat]
section
variable {own : Nat → Prop} {w : World} {σ : List SE} {P : Program}
theorem Xo {ρ : Operand → AV} {ρc : Operand → Value} (h : ∀ x, Rep own w (ρ x) σ (ρc x)) (l : Option Operand) :
  (∀ a, l.map ρ = some a → ∃ v, l.map ρc = some v ∧ Rep own w a σ v) ∧ (l.map ρ = none → l.map ρc = none) := by
 cases l with
 | none => exact ⟨fun a h => by simp at h, fun _ => rfl⟩
 | some x => exact ⟨fun a ha => by simp at ha; subst ha; exact ⟨_, rfl, h x⟩, fun h => by simp at h⟩
theorem Ww {t : TypeId} {ρ : Operand → AV} {ρc : Operand → Value} (hρ : ∀ x, Rep own w (ρ x) σ (ρc x)) {l h : Option Operand} {a : AV} {va : Value} {Q : AV → Prop}
  (ha : Rep own w a σ va) (hq : (yW P t (l.map ρ) (h.map ρ) a).holds Q) :
  ∃ r v, (Instr.sliceAt t va (l.map ρc) (h.map ρc) none).run P w = .ok v w ∧ Q r ∧ Rep own w r σ v := by
 obtain ⟨l1, l2⟩ := Xo hρ l
 obtain ⟨h1, h2⟩ := Xo hρ h
 cases a with
 | str s =>
  simp only [Rep] at ha; subst ha
  simp only [yW] at hq
  split at hq
  ·rename_i hu
   obtain ⟨x, y, e1, e2, e3, e4⟩ := w9 (P := P) (s := false) (cap := s.length) l1 l2 h1 h2 (Nat.le_refl _) (Tree.zl.1 hq)
   refine ⟨_, _, ?_, e2, rfl⟩
   have es : (⟨s.toArray⟩ : ByteArray).size = s.length := by simp [ByteArray.size]
   simp only [Instr.sliceAt, Sem.run_bind, run_underlying hu, Result.andThen_ok, Instr.slice, es]
   simp only [Option.isSome, Bool.false_eq_true, if_false, Sem.run_bind, Sem.run_pure, Result.andThen_ok, e1]
   congr 2
   apply ByteArray.ext
   apply Array.ext'
   rw [List.drop_take]
   simp [List.extract_eq_drop_take']
  ·exact hq.elim
 | nils =>
  simp only [Rep] at ha; subst ha
  simp only [yW] at hq
  split at hq
  ·rename_i e hu
   split at hq
   ·rename_i hs
    obtain ⟨n, hs⟩ := Option.isSome_iff_exists.1 hs
    obtain ⟨x, y, e1, e2, e3, e4⟩ := w9 (P := P) (s := true) (cap := 0) l1 l2 h1 h2 (Nat.le_refl _) (Tree.zl.1 hq)
    have hx : x = 0 := by omega
    have hy : y = 0 := by omega
    subst hx; subst hy
    refine ⟨_, .slice none 0 0, ?_, e2, by simp [Rep]⟩
    simp only [Instr.sliceAt, Sem.run_bind, run_underlying hu, Result.andThen_ok, Instr.slice, e1, z1 hs, Sem.run_pure]
    simp
   ·exact hq.elim
  ·exact hq.elim
 | sl n sz g =>
  simp only [Rep] at ha
  obtain ⟨ad, cap, rfl, hc, hr⟩ := ha
  simp only [yW] at hq
  split at hq
  ·rename_i e hu
   split at hq
   ·rename_i hs
    obtain ⟨x, y, e1, e2, e3, e4⟩ := w9 (P := P) (s := true) (cap := cap) l1 l2 h1 h2 hc (Tree.zl.1 hq)
    refine ⟨_, .slice (if cap = x then ad else ad.map (·.add (x * sz))) (y - x) (cap - x), ?_, e2, ?_⟩
    ·simp only [Instr.sliceAt, Sem.run_bind, run_underlying hu, Result.andThen_ok, Instr.slice, e1, z1 hs, Sem.run_pure]
    ·simp only [Rep]
     refine ⟨_, _, rfl, by omega, ?_⟩
     by_cases hz : y - x = 0
     ·exact .inl hz
     ·rcases hr with hr | ⟨ad', rfl, hsp, hr⟩
      ·omega
      ·right
       rw [if_neg (by omega)]
       refine ⟨ad'.add (x * sz), rfl, by rw [add_plain hsp], fun j o hj ho => ?_⟩
       obtain ⟨h3, c, h4, h5⟩ := hr (x + j) o (by omega) ho
       rw [add_plain hsp]
       refine ⟨h3, c, ?_, h5⟩
       rw [← h4]
       dsimp only
       congr 2
       rw [Nat.add_mul]
       omega
   ·exact hq.elim
  ·exact hq.elim
 | osl i sz off n =>
  simp only [Rep] at ha
  obtain ⟨e0, he0, hl0, ad, cap, rfl, hc, hr⟩ := ha
  simp only [yW] at hq
  split at hq
  ·rename_i e hu
   split at hq
   ·rename_i hs
    obtain ⟨x, y, e1, e2, e3, e4⟩ := w9 (P := P) (s := true) (cap := cap) l1 l2 h1 h2 hc (Tree.zl.1 hq)
    refine ⟨_, .slice (if cap = x then ad else ad.map (·.add (x * sz))) (y - x) (cap - x), ?_, e2, ?_⟩
    ·simp only [Instr.sliceAt, Sem.run_bind, run_underlying hu, Result.andThen_ok, Instr.slice, e1, z1 hs, Sem.run_pure]
    ·simp only [Rep]
     refine ⟨e0, he0, by omega, _, _, rfl, by omega, ?_⟩
     by_cases hz : cap - x = 0
     ·exact .inl hz
     ·rcases hr with hr | ⟨ad', ha', rfl, cs, el, hcs, hsz⟩
      ·omega
      ·right
       rw [if_neg (by omega)]
       refine ⟨ad', ha', ?_, cs, el, hcs, ?_⟩
       ·simp only [Option.map]
        rw [add_plain rfl]
        simp only [Nat.add_mul, Nat.add_assoc]
       ·have : off + x + (cap - x) = off + cap := by omega
        rw [this]; exact hsz
   ·exact hq.elim
  ·exact hq.elim
 | _ => exact hq.elim
theorem Q4 {t : TypeId} {a i : AV} {va vi : Value} {Q : AV → Prop} (ha : Rep own w a σ va) (hi : Rep own w i σ vi) (hq : (kN P t i a).holds Q) :
  ∃ r v, (Instr.indexAt t va vi).run P w = .ok v w ∧ Q r ∧ Rep own w r σ v := by
 cases a with
 | sl n sz g =>
  simp only [Rep] at ha
  obtain ⟨ad, cap, rfl, hc, hr⟩ := ha
  simp only [kN] at hq
  split at hq
  ·rename_i e k m hu
   simp only [Rep] at hi; subst hi
   split at hq
   ·rename_i hs
    obtain ⟨hb, hq⟩ := hq
    have hq := hq hb
    rcases hr with hr | ⟨ad', rfl, hsp, hr⟩
    ·omega
    refine ⟨_, .pointer (some (ad'.add (m.toNat * sz))), ?_, hq, ?_⟩
    ·simp only [Instr.indexAt, Sem.run_bind, asIntOf, Sem.run_pure, Result.andThen_ok, run_underlying hu, hb, and_self, if_true, z1 hs]
    ·simp only [Rep]
     refine ⟨_, rfl, by rw [add_plain hsp], fun o ho => ?_⟩
     obtain ⟨h3, c, h4, _, h5⟩ := hr m.toNat o (by omega) ho
     rw [add_plain hsp]
     exact ⟨h3, c, by rw [← h4]; simp [Nat.add_assoc], h5⟩
   ·exact hq.elim
  ·exact hq.elim
 | osl b sz off n =>
  simp only [Rep] at ha
  obtain ⟨e0, he0, hl0, ad, cap, rfl, hc, hr⟩ := ha
  simp only [kN] at hq
  split at hq
  ·rename_i e k m hu
   simp only [Rep] at hi; subst hi
   split at hq
   ·rename_i hs
    obtain ⟨hb, hq⟩ := hq
    have hq := hq hb
    rcases hr with hr | ⟨ad', ha', rfl, cs, el, hcs, hsz⟩
    ·omega
    refine ⟨_, .pointer (some ((⟨ad'.block, ad'.off + off * sz, none⟩ : Addr).add (m.toNat * sz))), ?_, hq, ?_⟩
    ·simp only [Instr.indexAt, Sem.run_bind, asIntOf, Sem.run_pure, Result.andThen_ok, run_underlying hu, hb, and_self, if_true, z1 hs]
    ·simp only [Rep]
     refine ⟨e0, ad', he0, ha', by omega, ?_⟩
     rw [add_plain rfl]
     simp only [Nat.add_mul, Nat.add_assoc, Nat.add_zero]
   ·exact hq.elim
  ·exact hq.elim
 | ptr b off =>
  simp only [Rep] at ha
  obtain ⟨e0, ad', he0, ha', rfl⟩ := ha
  simp only [kN] at hq
  split at hq
  ·rename_i len e k m hu
   simp only [Rep] at hi; subst hi
   split at hq
   ·rename_i sz hs
    obtain ⟨hb, hq⟩ := hq
    have hq := hq hb
    refine ⟨_, .pointer (some ((⟨ad'.block, ad'.off + off, none⟩ : Addr).add (m.toNat * sz))), ?_, hq, ?_⟩
    ·simp only [Instr.indexAt, Sem.run_bind, asIntOf, Sem.run_pure, Result.andThen_ok, run_underlying hu, Instr.sureAddr, hb, and_self, if_true, z1 hs]
    ·simp only [Rep]
     refine ⟨e0, ad', he0, ha', ?_⟩
     rw [add_plain rfl]
     simp only [Nat.add_assoc]
   ·exact hq.elim
  ·exact hq.elim
 | _ => exact hq.elim
theorem WC {t : TypeId} {a i : AV} {va vi : Value} {Q : AV → Prop} (ha : Rep own w a σ va) (hi : Rep own w i σ vi) (hq : (Wc P t i a).holds Q) :
  ∃ r v, (Instr.index t va vi).run P w = .ok v w ∧ Q r ∧ Rep own w r σ v := by
 cases a with
 | str s =>
  simp only [Rep] at ha; subst ha
  simp only [Wc] at hq
  split at hq
  ·rename_i k m hu
   simp only [Rep] at hi; subst hi
   obtain ⟨hb, hq⟩ := hq
   refine ⟨_, _, ?_, hq hb, rfl⟩
   have hlt : m.toNat < s.length := by omega
   have : (⟨s.toArray⟩ : ByteArray)[m.toNat]? = some (s.getD m.toNat 0) := by
    rw [getElem?_pos (⟨s.toArray⟩ : ByteArray) m.toNat (by simpa [ByteArray.size] using hlt)]
    have h0 : (⟨s.toArray⟩ : ByteArray)[m.toNat]'(by simpa [ByteArray.size] using hlt) = s.toArray[m.toNat]'(by simpa using hlt) := rfl
    rw [h0]; simp [hlt, List.getD]
   simp only [Instr.index, Sem.run_bind, asIntOf, Sem.run_pure, Result.andThen_ok, run_underlying hu, hb.1, if_true, this]
  ·exact hq.elim
 | agg cs =>
  simp only [Rep] at ha
  obtain ⟨vs, rfl, hr⟩ := ha
  simp only [Wc] at hq
  split at hq
  ·rename_i len e k m hu
   simp only [Rep] at hi; subst hi
   split at hq
   ·rename_i sz b hs hb
    obtain ⟨hc, hq⟩ := hq
    have hq := hq hc
    obtain ⟨r, v, hQ, hR, h1, h2⟩ := xT (hr.cut (m.toNat * sz) sz) hq
    refine ⟨r, v, ?_, hQ, hR⟩
    simp only [Instr.index, Sem.run_bind, asIntOf, Sem.run_pure, Result.andThen_ok, run_underlying hu, hc.1, hc.2.1, and_self, if_true, z1 hs, part, xa hb]
    cases b with
    | true =>
     have h3 := h1 rfl
     subst h3
     rw [← Vf]
     simp only [if_true, Sem.run_bind, z1 hs, Result.andThen_ok, Sem.run_pure]
    | false =>
     have h3 := h2 rfl
     have h4 : ((vs.drop (m.toNat * sz)).take sz)[0]? = some v := by rw [h3]; rfl
     have h5 := (uV h4).1
     simp only [Nat.add_zero] at h5
     simp [h5]
   ·exact hq.elim
  ·exact hq.elim
 | _ => exact hq.elim
theorem We {va : Value} {i sz off n N : Nat} {g : Nat → Nat → AV} (ha : Rep own w (.osl i sz off n) σ va) (hb : ∀ e, σ[i]? = some e → BRep own w σ e (.arr N sz g)) :
  ∃ ad cap, va = .slice ad n cap ∧ n ≤ cap ∧ (n = 0 ∨ ∃ d, ad = some d ∧ d.spot = none ∧
   ∀ j o, j < n → o < sz → ∃ c, w.cell? ⟨d.block, d.off + (j * sz + o), none⟩ = some c ∧ c.oneCell' = true ∧ Rep own w (zg g off j o) [] c) := by
 simp only [Rep] at ha
 obtain ⟨e, he, hl, ad, cap, rfl, hc, hr⟩ := ha
 refine ⟨ad, cap, rfl, hc, ?_⟩
 by_cases hn : n = 0
 ·exact .inl hn
 ·right
  rcases hr with hr | ⟨ad', ha', rfl, cs, el, hcs, hsz⟩
  ·omega
  refine ⟨_, rfl, rfl, fun j o hj ho => ?_⟩
  have hb := hb e he
  simp only [BRep] at hb
  obtain ⟨hen, hz | ⟨ad2, cs2, el2, ha2, hcs2, hsz2, hr2⟩⟩ := hb
  ·omega
  rw [ha'] at ha2; cases ha2
  rw [hcs] at hcs2; cases hcs2
  obtain ⟨c, h4, h5⟩ := hr2 (off + j) o (by omega) ho
  refine ⟨c, ?_, h5⟩
  refine vS hcs ?_
  rw [← h4]; dsimp only; congr 1; rw [Nat.add_mul]; omega
theorem uo {h : Heap} (hh : HRep own w σ h) {a : AV} {va : Value} {n sz : Nat} {g : Nat → Nat → AV} (ha : Rep own w a σ va) (hs : qw h a = some (n, sz, g)) :
  ∃ ad cap, va = .slice ad n cap ∧ n ≤ cap ∧ (n = 0 ∨ ∃ d, ad = some d ∧ d.spot = none ∧
   ∀ j o, j < n → o < sz → ∃ c, w.cell? ⟨d.block, d.off + (j * sz + o), none⟩ = some c ∧ c.oneCell' = true ∧ Rep own w (g j o) [] c) := by
 cases a with
 | nils =>
  simp only [Rep] at ha; subst ha
  simp only [qw, Option.some.injEq, Prod.mk.injEq] at hs
  obtain ⟨rfl, rfl, rfl⟩ := hs
  exact ⟨none, 0, rfl, Nat.le_refl _, .inl rfl⟩
 | sl n' sz' g' =>
  simp only [qw, Option.some.injEq, Prod.mk.injEq] at hs
  obtain ⟨rfl, rfl, rfl⟩ := hs
  simp only [Rep] at ha
  obtain ⟨ad, cap, rfl, hc, hr⟩ := ha
  refine ⟨ad, cap, rfl, hc, ?_⟩
  rcases hr with hr | ⟨d, h1, h2, h3⟩
  ·exact .inl hr
  ·exact .inr ⟨d, h1, h2, fun j o hj ho => (h3 j o hj ho).2⟩
 | osl i sz' off n' =>
  simp only [qw] at hs
  split at hs
  ·rename_i N sz'' g' hb
   split at hs
   ·rename_i hz
    subst hz
    simp only [Option.some.injEq, Prod.mk.injEq] at hs
    obtain ⟨rfl, rfl, rfl⟩ := hs
    exact We ha fun e he => hh.blk i e _ he hb
   ·cases hs
  ·rename_i k N f hb
   split at hs
   ·rename_i hz
    subst hz
    simp only [Option.some.injEq, Prod.mk.injEq] at hs
    obtain ⟨rfl, rfl, rfl⟩ := hs
    exact We ha fun e he => kj.1 (hh.blk i e _ he hb)
   ·cases hs
  ·rename_i N f hb
   split at hs
   ·rename_i hz
    subst hz
    simp only [Option.some.injEq, Prod.mk.injEq] at hs
    obtain ⟨rfl, rfl, rfl⟩ := hs
    exact We ha fun e he => kr.1 (hh.blk i e _ he hb)
   ·cases hs
  ·cases hs
 | _ => simp [qw] at hs
theorem YO {ρc : Operand → Value} {o : Oper} {x : Operand} (ho : o.op = .nilCheck x) {a : AV} {Q : AV → Prop} (ha : Rep own w a σ (ρc x)) (hq : (nilX a).holds Q) :
  ∃ r v, (execOp ρc o).run P w = .ok (.value v) w ∧ Q r ∧ Rep own w r σ v := by
 cases a with
 | ptr i off =>
  have ha' := ha
  simp only [Rep] at ha
  obtain ⟨e, ad, he, had, hv⟩ := ha
  exact ⟨_, _, by simp only [execOp, ho]; rw [hv]; rfl, hq, by rw [hv] at ha'; exact ha'⟩
 | eptr i sz idx off =>
  have ha' := ha
  simp only [Rep] at ha
  obtain ⟨e, ad, he, had, hl, hv⟩ := ha
  exact ⟨_, _, by simp only [execOp, ho]; rw [hv]; rfl, hq, by rw [hv] at ha'; exact ha'⟩
 | iptr m g =>
  have ha' := ha
  simp only [Rep] at ha
  obtain ⟨ad, hv, _⟩ := ha
  exact ⟨_, _, by simp only [execOp, ho]; rw [hv]; rfl, hq, by rw [hv] at ha'; exact ha'⟩
 | fn f b c =>
  have ha' := ha
  simp only [Rep] at ha
  obtain ⟨va, vb, hv, _⟩ := ha
  exact ⟨_, _, by simp only [execOp, ho]; rw [hv]; rfl, hq, by rw [hv] at ha'; exact ha'⟩
 | _ => exact hq.elim
theorem fold_push : ∀ (l : List Int) (s : ByteArray), l.foldl (fun r n => r.push (UInt8.ofNat n.toNat)) s = ⟨s.data ++ (l.map fun n => UInt8.ofNat n.toNat).toArray⟩
 | [], s => by simp
 | a :: l, s => by
  simp only [List.foldl_cons, fold_push l]
  apply ByteArray.ext
  apply Array.ext'
  simp [ByteArray.push]
theorem Ki {h : Heap} (hh : HRep own w σ h) {src t : TypeId} {a : AV} {va : Value} {Q : AV → Prop} (ha : Rep own w a σ va) (hq : (Vh P h src t a).holds Q) :
  ∃ r v, (convert src t va).run P w = .ok v w ∧ Q r ∧ Rep own w r σ v := by
 cases a with
 | int k n =>
  simp only [Rep] at ha; subst ha
  simp only [Vh] at hq
  split at hq
  ·rename_i hs ht
   obtain ⟨h1, h2⟩ := hq
   exact ⟨_, _, by simp [convert, run_underlying hs, run_underlying ht, Conv.intToInt, vB h1]; rfl, h2 h1, by simp [Rep]⟩
  ·exact hq.elim
 | str s =>
  simp only [Rep] at ha; subst ha
  simp only [Vh] at hq
  split at hq
  ·rename_i hs ht
   exact ⟨_, _, by simp [convert, run_underlying hs, run_underlying ht]; rfl, hq, by simp [Rep]⟩
  ·exact hq.elim
 | _ =>
  simp only [Vh] at hq
  split at hq
  ·rename_i e hs ht
   split at hq
   ·rename_i n g he hsq
    obtain ⟨h1, h2⟩ := hq
    obtain ⟨ad, cap, rfl, hc, hr⟩ := uo hh ha hsq
    refine ⟨_, _, ?_, h2 h1, rfl⟩
    simp only [convert, Sem.run_bind, run_underlying hs, run_underlying ht, run_underlying he, Result.andThen_ok]
    cases ad with
    | none =>
     have hn : n = 0 := by rcases hr with hr | ⟨d, h, _⟩; exact hr; cases h
     subst hn
     rfl
    | some d =>
     have hl : (loadCells d n).run P w = .ok (((List.range n).map fun j => ((byteOf (g j 0)).toNat : Int)).map (Value.int .u8)).toArray w := by
      rcases hr with hr | ⟨d', h, hsp, hr⟩
      ·subst hr; rfl
      ·cases h
       rw [run_loadCells w d n (fun j => .int .u8 ((byteOf (g j 0)).toNat : Int)) (fun j hj => by
        obtain ⟨c, h3, _, h4⟩ := hr j 0 hj (by omega)
        obtain ⟨b, hb⟩ := h1 j hj
        rw [hb] at h4 ⊢
        simp only [Rep] at h4
        subst h4
        rw [add_plain hsp]
        rw [show d.off + (j * 1 + 0) = d.off + j by omega] at h3
        rw [h3]
        simp [byteOf])]
       simp
     have := run_bytesToString (P := P) w d n cap _ hl
     rw [this, fold_push]
     congr 3
     simp [vI, Function.comp_def]
   ·exact hq.elim
  ·exact hq.elim
end
end Go.Sx
end

/- Constants, zero values, composite literals; all value operations in one. -/
section
namespace Go.Sx
variable [Stat]
section
variable {own : Nat → Prop} {w : World} {σ : List SE} {P : Program}
theorem yL (v : Value) : Rep own w (ua v) σ v := by
 cases v with
 | slice a n c => cases a <;> cases n <;> cases c <;> simp [ua, Rep]
 | pointer a => cases a <;> simp [ua, Rep]
 | _ => simp [ua, Rep]
theorem wh (v : Value) : Rep own w (xq v) σ v := by
 cases v with
 | agg cs =>
  simp only [xq, Rep]
  exact ⟨cs.toList, by simp, zw.2 ⟨by simp, fun i a v ha hv => by
   simp only [List.getElem?_map, hv, Option.map_some, Option.some.injEq] at ha
   subst ha; exact yL v⟩⟩
 | _ => simp only [xq]; exact yL _
theorem qy {a : AV} {v : Value} {cs : List AV} (hc : cellsOf a = some cs) (h : Rep own w a σ v) : RepL own w cs σ v.cells.toList := by
 cases a with
 | agg l =>
  simp only [cellsOf, Option.some.injEq] at hc; subst hc
  simp only [Rep] at h
  obtain ⟨vs, rfl, hr⟩ := h
  simpa [Value.cells] using hr
 | undef => simp [cellsOf] at hc
 | opt _ _ _ => simp [cellsOf] at hc
 | sl n sz g =>
  simp only [cellsOf, Option.some.injEq] at hc; subst hc
  have h' := h
  simp only [Rep] at h'
  obtain ⟨a, cap, rfl, _⟩ := h'
  simp only [Value.cells, RepL]; exact ⟨_, _, rfl, h, rfl⟩
 | osl i sz off n =>
  simp only [cellsOf, Option.some.injEq] at hc; subst hc
  have h' := h
  simp only [Rep] at h'
  obtain ⟨e, he, hl, a, cap, rfl, _⟩ := h'
  simp only [Value.cells, RepL]; exact ⟨_, _, rfl, h, rfl⟩
 | ptr i off =>
  simp only [cellsOf, Option.some.injEq] at hc; subst hc
  have h' := h
  simp only [Rep] at h'
  obtain ⟨e, ad, he, had, rfl⟩ := h'
  simp only [Value.cells, RepL]; exact ⟨_, _, rfl, h, rfl⟩
 | eptr i sz idx off =>
  simp only [cellsOf, Option.some.injEq] at hc; subst hc
  have h' := h
  simp only [Rep] at h'
  obtain ⟨e, ad, he, had, hl, rfl⟩ := h'
  simp only [Value.cells, RepL]; exact ⟨_, _, rfl, h, rfl⟩
 | omap i =>
  simp only [cellsOf, Option.some.injEq] at hc; subst hc
  have h' := h
  simp only [Rep] at h'
  obtain ⟨e, ad, he, had, rfl⟩ := h'
  simp only [Value.cells, RepL]; exact ⟨_, _, rfl, h, rfl⟩
 | iptr m g =>
  simp only [cellsOf, Option.some.injEq] at hc; subst hc
  have h' := h
  simp only [Rep] at h'
  obtain ⟨ad, rfl, _⟩ := h'
  simp only [Value.cells, RepL]; exact ⟨_, _, rfl, h, rfl⟩
 | tup l =>
  simp only [cellsOf, Option.some.injEq] at hc; subst hc
  have h' := h
  simp only [Rep] at h'
  obtain ⟨vs, rfl, hr⟩ := h'
  simp only [Value.cells, RepL]; exact ⟨_, _, rfl, h, rfl⟩
 | fn f a b =>
  simp only [cellsOf, Option.some.injEq] at hc; subst hc
  have h' := h
  simp only [Rep] at h'
  obtain ⟨va, vb, rfl, hr⟩ := h'
  simp only [Value.cells, RepL]; exact ⟨_, _, rfl, h, rfl⟩
 | mp k ag sz ks has get =>
  simp only [cellsOf, Option.some.injEq] at hc; subst hc
  have h' := h
  simp only [Rep] at h'
  obtain ⟨b, es, clock, rfl, hr⟩ := h'
  simp only [Value.cells, RepL]; exact ⟨_, _, rfl, h, rfl⟩
 | _ =>
  simp only [cellsOf, Option.some.injEq] at hc; subst hc
  have h' := h
  simp only [Rep] at h'
  subst h'
  simp only [Value.cells, RepL]; exact ⟨_, _, rfl, h, rfl⟩
theorem wU {t : TypeId} {cs : List AV} (h : zeroCells P t = some cs) : ∃ v, (zeroValue t).run P w = .ok v w ∧ RepL own w cs σ v.cells.toList := by
 unfold zeroCells at h
 split at h
 ·rename_i i hi
  split at h
  ·rename_i v hv
   refine ⟨v, ?_, qy h (wh v)⟩
   simp [zeroValue, run_typeInfo w hi, hv]
  ·cases h
 ·cases h
theorem RepL.setAt {l new : List AV} {vs nv : List Value} {off : Nat} (h : RepL own w l σ vs) (hn : RepL own w new σ nv) (hle : off + new.length ≤ l.length) :
  RepL own w (setAt l off new) σ (vs.take off ++ nv ++ vs.drop (off + nv.length)) := by
 have := hn.length
 unfold Go.Sx.setAt
 rw [this]
 exact ((h.tak off).app hn).app (h.drp _)
theorem Jd (off : Nat) : ∀ (l : List Value) (k : Nat) (cells : Array Value), off + k + l.length ≤ cells.size →
  ((l.zipIdx k).foldl (fun cs (x : Value × Nat) => cs.setIfInBounds (off + x.2) x.1) cells).toList = cells.toList.take (off + k) ++ l ++ cells.toList.drop (off + k + l.length)
 | [], k, cells, h => by simp
 | a :: l, k, cells, h => by
  simp only [List.length_cons] at h
  simp only [List.zipIdx_cons, List.foldl_cons]
  rw [Jd off l (k + 1) _ (by simp; omega)]
  simp only [Array.toList_setIfInBounds, List.length_cons]
  have h1 : (cells.toList.set (off + k) a).take (off + (k + 1)) = cells.toList.take (off + k) ++ [a] := by
   rw [show off + (k + 1) = off + k + 1 by omega, List.take_succ_eq_append_getElem (by simp; omega)]
   simp [List.take_set_of_le]
  have h2 : (cells.toList.set (off + k) a).drop (off + (k + 1) + l.length) = cells.toList.drop (off + k + (l.length + 1)) := by
   rw [List.drop_set_of_lt (by omega)]
   congr 1; omega
  rw [h1, h2]
  simp
theorem wR {place placeX : Nat → Option (Nat × Nat)} (hp : ∀ i x, placeX i = some x → place i = some x) : ∀ (parts : List (Nat × AV)) (vparts : List (Nat × Value)) (cells : List AV) (vcells : Array Value) (out : List AV),
  vparts.length = parts.length → (∀ (i : Nat) p q, parts[i]? = some p → vparts[i]? = some q → p.1 = q.1 ∧ Rep own w p.2 σ q.2) →
  RepL own w cells σ vcells.toList → wP placeX cells parts = some out →
  ∃ vout, Instr.fill place vcells vparts = some vout ∧ RepL own w out σ vout.toList
 | [], vparts, cells, vcells, out, hl, hr, hc, h => by
  have : vparts = [] := by simpa using hl
  subst this
  simp only [wP, Option.some.injEq] at h; subst h
  exact ⟨vcells, rfl, hc⟩
 | (i, v) :: rest, vparts, cells, vcells, out, hl, hr, hc, h => by
  match vparts, hl with
  | (i', v') :: vrest, hl =>
   obtain ⟨h1, h2⟩ := hr 0 (i, v) (i', v') (by simp) (by simp)
   simp only at h1 h2
   subst h1
   simp only [wP] at h
   split at h
   ·cases h
   ·rename_i off size hpl
    split at h
    ·rename_i cv hcv
     split at h
     ·rename_i hle
      have hcs := qy hcv h2
      have hlen := hcs.length
      have hlc := hc.length
      simp only [Array.length_toList] at hlen hlc
      have hset := hc.setAt hcs (off := off) (by omega)
      have hfold := Jd off v'.cells.toList 0 vcells (by simp; omega)
      simp only [Nat.add_zero] at hfold
      rw [← hfold] at hset
      obtain ⟨vout, h3, h4⟩ := wR hp rest vrest _ _ out (by simpa using hl) (fun i p q hx hy => hr (i + 1) p q (by simpa using hx) (by simpa using hy)) hset h
      refine ⟨vout, ?_, h4⟩
      simp only [Instr.fill, hp i _ hpl]
      rw [if_neg (by simp; omega)]
      rw [← h3]
      congr 1
      rw [← Array.foldl_toList]
      simp
     ·cases h
    ·cases h
theorem Wz {α β : Type} {f : α → Sem β} {g : α → β} : ∀ (l : List α), (∀ x ∈ l, (f x).run P w = .ok (g x) w) → (l.mapM f).run P w = .ok (l.map g) w
 | [], _ => by simp
 | a :: l, h => by
  simp only [List.mapM_cons, Sem.run_bind, h a (by simp), Result.andThen_ok, Wz l (fun x hx => h x (by simp [hx])), Sem.run_pure, List.map_cons]
theorem WA {t : TypeId} {parts : Array (Nat × Operand)} {ρ : Operand → AV} {ρc : Operand → Value} (hρ : ∀ x, Rep own w (ρ x) σ (ρc x)) {Q : AV → Prop}
  (hq : (VT P t (parts.toList.map fun p => (p.1, ρ p.2))).holds Q) :
  ∃ r v, (Instr.build t (parts.map fun (i, x) => (i, ρc x))).run P w = .ok v w ∧ Q r ∧ Rep own w r σ v := by
 have hparts : ∀ (i : Nat) (p : Nat × AV) (q : Nat × Value), (parts.toList.map fun p => (p.1, ρ p.2))[i]? = some p → ((parts.map fun (i, x) => (i, ρc x)).toList)[i]? = some q → p.1 = q.1 ∧ Rep own w p.2 σ q.2 := by
  intro i p q hp hq
  simp only [List.getElem?_map, Array.toList_map] at hp hq
  cases hx : parts.toList[i]? with
  | none => simp [hx] at hp
  | some x =>
   simp only [hx, Option.map_some, Option.some.injEq] at hp hq
   subst hp; subst hq
   exact ⟨rfl, hρ x.2⟩
 simp only [VT] at hq
 split at hq
 ·rename_i fs hu
  split at hq
  ·rename_i cs hz
   split at hq
   ·rename_i out hf
    split at hq
    ·rename_i hall
     obtain ⟨v, hv, hr⟩ := wU (P := P) (own := own) (w := w) (σ := σ) hz
     have hsz : ∀ f ∈ fs.toList, ((do pure (f.offset, ← sizeOf f.type) : Sem (Nat × Nat))).run P w = .ok (f.offset, (zW P f.type).getD 0) w := by
      intro f hf
      have := Array.all_eq_true'.1 hall f (by simpa using hf)
      obtain ⟨n, hn⟩ := Option.isSome_iff_exists.1 this
      simp [z1 hn, hn]
     have hm := Wz (P := P) (w := w) fs.toList hsz
     obtain ⟨vout, h3, h4⟩ := wR (place := fun i => (fs.map fun f => (f.offset, (zW P f.type).getD 0))[i]?) (fun i x hx => by
      simp only [Array.getElem?_map]
      split at hx
      ·rename_i f hf
       simp only [hf, Option.map_some]
       cases hs : zW P f.type with
       | none => simp [hs] at hx
       | some n => simp [hs] at hx ⊢; exact hx
      ·cases hx) _ (parts.map fun (i, x) => (i, ρc x)).toList cs v.cells out (by simp) hparts hr hf
     refine ⟨_, .agg vout, ?_, hq, by simp only [Rep]; exact ⟨vout.toList, by simp, h4⟩⟩
     have hm' : (fs.mapM fun f => (do pure (f.offset, ← sizeOf f.type) : Sem (Nat × Nat))).run P w = .ok (fs.map fun f => (f.offset, (zW P f.type).getD 0)) w := by
      obtain ⟨l⟩ := fs
      rw [List.mapM_toArray]
      simp only [Sem.run_map, hm]
      simp
     simp only [Instr.build, Sem.run_bind, hv, Result.andThen_ok, run_underlying hu, hm', h3, Sem.run_pure]
    ·exact hq.elim
   ·exact hq.elim
  ·exact hq.elim
 ·rename_i n e hu
  split at hq
  ·rename_i cs sz hz hs
   split at hq
   ·rename_i out hf
    obtain ⟨v, hv, hr⟩ := wU (P := P) (own := own) (w := w) (σ := σ) hz
    obtain ⟨vout, h3, h4⟩ := wR (fun i x hx => hx) _ (parts.map fun (i, x) => (i, ρc x)).toList cs v.cells out (by simp) hparts hr hf
    refine ⟨_, .agg vout, ?_, hq, by simp only [Rep]; exact ⟨vout.toList, by simp, h4⟩⟩
    simp only [Instr.build, Sem.run_bind, hv, Result.andThen_ok, run_underlying hu, z1 hs, h3, Sem.run_pure]
   ·exact hq.elim
  ·exact hq.elim
 ·exact hq.elim
end
end Go.Sx
end

/- The operations that make or turn memory. -/
section
namespace Go.Sx
variable [Stat]
open Go.RowKit (Below)
def zy : List Nat → AV → AV
 | [], a => a
 | i :: k, a => zy k (zT i a)
section
variable {own O : Nat → Prop} {w : World} {σ : List SE} {P : Program}
theorem kJ {i : Nat} : ∀ {a : AV} {v : Value}, Rep own w a σ v → Rep own w (qK i a) σ v := by
 intro a v h
 cases a <;> simp only [qK] <;> (try exact h) <;> (try (simp only [Rep])) <;> (try (split <;> first | exact h | (simp only [Rep])))
theorem RepL.map {f : AV → AV} (hf : ∀ a v, Rep own w a σ v → Rep own w (f a) σ v) {l : List AV} {vs : List Value} (h : RepL own w l σ vs) : RepL own w (l.map f) σ vs := by
 refine zw.2 ⟨by simp [h.length], fun i a v ha hv => ?_⟩
 simp only [List.getElem?_map] at ha
 cases hl : l[i]? with
 | none => simp [hl] at ha
 | some x =>
  simp only [hl, Option.map_some, Option.some.injEq] at ha
  subst ha
  exact hf _ _ ((zw.1 h).2 i x v hl hv)
theorem Wy {i : Nat} {a : AV} {v : Value} (h : Rep own w a σ v) : Rep own w (zT i a) σ v := by
 cases a with
 | agg cs =>
  simp only [Rep, zT] at h ⊢
  obtain ⟨vs, hv, hr⟩ := h
  exact ⟨vs, hv, hr.map fun _ _ h => kJ h⟩
 | tup cs =>
  simp only [Rep, zT] at h ⊢
  obtain ⟨vs, hv, hr⟩ := h
  exact ⟨vs, hv, hr.map fun _ _ h => kJ h⟩
 | _ => simp only [zT]; exact kJ (i := i) h
theorem qu {K : List Nat} : ∀ {l : List AV}, NoHL K l ↔ ∀ a ∈ l, NoH K a
 | [] => by simp [NoHL]
 | a :: l => by simp [NoHL, qu (l := l)]
theorem uz (i : Nat) (a : AV) : NoH [i] (qK i a) := by
 cases a <;> simp only [qK] <;> (try (simp [NoH]; done)) <;> (try (split <;> simp_all [NoH, NoHL] <;> omega))
theorem XS (i : Nat) (a : AV) : NoH [i] (zT i a) := by
 cases a with
 | agg cs => simp only [zT, NoH]; exact qu.2 fun x hx => by obtain ⟨y, _, rfl⟩ := List.mem_map.1 hx; exact uz i y
 | tup cs => simp only [zT, NoH]; exact qu.2 fun x hx => by obtain ⟨y, _, rfl⟩ := List.mem_map.1 hx; exact uz i y
 | _ => simp only [zT]; exact uz i _
theorem kT {K : List Nat} (i : Nat) {a : AV} (h : NoH K a) : NoH K (qK i a) := by
 cases a <;> simp only [qK] <;> (try exact h) <;> (try (simp [NoH]; done)) <;> (try (split <;> first | exact h | (simp [NoH, NoHL])))
theorem WJ {K : List Nat} (i : Nat) {a : AV} (h : NoH K a) : NoH K (zT i a) := by
 cases a with
 | agg cs => simp only [zT, NoH] at h ⊢; exact qu.2 fun x hx => by obtain ⟨y, hy, rfl⟩ := List.mem_map.1 hx; exact kT i (qu.1 h y hy)
 | tup cs => simp only [zT, NoH] at h ⊢; exact qu.2 fun x hx => by obtain ⟨y, hy, rfl⟩ := List.mem_map.1 hx; exact kT i (qu.1 h y hy)
 | _ => simp only [zT]; exact kT i h
theorem UL {i : Nat} {K : List Nat} : ∀ {a : AV}, NoH [i] a → NoH K a → NoH (i :: K) a := by
 intro a
 induction a using AV.rec (motive_2 := fun l => NoHL [i] l → NoHL K l → NoHL (i :: K) l) <;> simp_all [NoH, NoHL]
theorem j3 : ∀ {K : List Nat} {a : AV} {v : Value}, Rep own w a σ v → Rep own w (zy K a) σ v
 | [], _, _, h => h
 | i :: k, _, _, h => j3 (K := k) (Wy h)
theorem yO {K : List Nat} : ∀ {L : List Nat} {a : AV}, NoH K a → NoH K (zy L a)
 | [], _, h => h
 | i :: k, _, h => yO (L := k) (WJ i h)
theorem vO : ∀ (K : List Nat) (a : AV), NoH K (zy K a)
 | [], a => qT a
 | i :: k, a => show NoH (i :: k) (zy k (zT i a)) from UL (yO (XS i a)) (vO k _)
theorem j1 : ∀ (K : List Nat) (ts : List AV), vg K ts = ts.map (zy K)
 | [], ts => by
  have : zy [] = id := rfl
  simp [vg, this]
 | i :: k, ts => by
  simp only [vg, j1 k, List.map_map]
  rfl
def jm (K : List Nat) : Blk → Blk
 | .box cs => .box (cs.map (zy K))
 | b => b
theorem zR : ∀ (K : List Nat) (h : Heap), zB K h = h.map (jm K)
 | [], h => by
  have : jm [] = id := funext fun b => by cases b <;> simp [jm]; exact List.map_id _
  simp [zB, this]
 | i :: k, h => by
  simp only [zB, zR k, List.map_map]
  congr 1
  funext b
  cases b <;> simp [jm, zen, Function.comp_def, zy]
structure Post (O : Nat → Prop) (w : World) (σ : List SE) (h : Heap) (r : Res) (v : Value) (w' : World) (σ' : List SE) : Prop where
 rep : Rep (Own O σ') w' r.val σ' v
 ext : Ext (Own O σ) w (Own O σ') w'
 hp : HRep (Own O σ') w' σ' (zm (zB r.kill h) r.eff)
 hold : Hold r.kill w σ w' σ'
 good : Good O w' σ'
 ky : ∀ b, O b → b < w.heap.size → w'.heap[b]? = w.heap[b]?
 fr : ∀ (i : Nat) (e : SE) (ad : Addr), σ[i]? = some e → e.ad = some ad → i ∉ r.eff.map (·.1) → w'.heap[ad.block]? = w.heap[ad.block]?
theorem qF {K : List Nat} {o1 o2 : Nat → Prop} {w1 w2 : World} {σ1 σ2 : List SE} (hx : Ext o1 w1 o2 w2) (hh : Hold K w1 σ1 w2 σ2) {e : SE} {b : Blk} (hb : BRep o1 w1 σ1 e b)
  (hm : ∀ ad, e.ad = some ad → w2.heap[ad.block]? = w1.heap[ad.block]?) : BRep o2 w2 σ2 e (jm K b) := by
 cases b with
 | dead => trivial
 | map ag sh has get pe =>
  simp only [jm, BRep] at hb ⊢
  obtain ⟨ad, es, clock, l, had, hes, h1, h2, h3, h4⟩ := hb
  exact ⟨ad, es, clock, l, had, (hm ad had).trans hes, h1, h2, h3, h4.ext hx⟩
 | box cells =>
  simp only [jm, BRep] at hb ⊢
  obtain ⟨ad, vs, el, had, h0, hcs, hr⟩ := hb
  exact ⟨ad, vs, el, had, h0, (hm ad had).trans hcs, qv hx hh _ vs (qu.2 fun x hx => by obtain ⟨y, _, rfl⟩ := List.mem_map.1 hx; exact vO K y) (hr.map fun _ _ h => j3 h)⟩
 | arr n sz get =>
  simp only [jm, BRep] at hb ⊢
  obtain ⟨hn, hz | ⟨ad, cs, el, had, hcs, hsz, hr⟩⟩ := hb
  ·exact ⟨hn, .inl hz⟩
  ·refine ⟨hn, .inr ⟨ad, cs, el, had, (hm ad had).trans hcs, hsz, fun j o hj ho => ?_⟩⟩
   obtain ⟨c, h1, h2, h3⟩ := hr j o hj ho
   exact ⟨c, h1, h2, zi hx _ _ h3⟩
 | arrI _ n _ =>
  simp only [jm, BRep] at hb ⊢
  obtain ⟨hn, hz | ⟨ad, cs, el, had, hcs, hsz, hr⟩⟩ := hb
  ·exact ⟨hn, .inl hz⟩
  ·refine ⟨hn, .inr ⟨ad, cs, el, had, (hm ad had).trans hcs, hsz, fun j o hj ho => ?_⟩⟩
   obtain ⟨c, h1, h2, h3⟩ := hr j o hj ho
   exact ⟨c, h1, h2, zi hx _ _ h3⟩
 | arrS n _ =>
  simp only [jm, BRep] at hb ⊢
  obtain ⟨hn, hz | ⟨ad, cs, el, had, hcs, hsz, hr⟩⟩ := hb
  ·exact ⟨hn, .inl hz⟩
  ·refine ⟨hn, .inr ⟨ad, cs, el, had, (hm ad had).trans hcs, hsz, fun j o hj ho => ?_⟩⟩
   obtain ⟨c, h1, h2, h3⟩ := hr j o hj ho
   exact ⟨c, h1, h2, zi hx _ _ h3⟩
theorem KC {σ : List SE} {ad : Addr} {n : Nat} {b : Nat} : Own O (σ ++ [⟨some ad, n⟩]) b ↔ Own O σ b ∨ b = ad.block := by
 unfold Own
 constructor
 ·rintro (h | ⟨e, he, a, h1, h2⟩)
  ·exact .inl (.inl h)
  rcases List.mem_append.1 he with he | he
  ·exact .inl (.inr ⟨e, he, a, h1, h2⟩)
  ·simp at he; subst he; simp at h1; subst h1; exact .inr h2.symm
 ·rintro ((h | ⟨e, he, a, h1, h2⟩) | rfl)
  ·exact .inl h
  ·exact .inr ⟨e, List.mem_append.2 (.inl he), a, h1, h2⟩
  ·exact .inr ⟨_, List.mem_append.2 (.inr (List.mem_singleton.2 rfl)), ad, rfl, rfl⟩
theorem qb {h : Heap} (hh : HRep (Own O σ) w σ h) (o : Obj) (n : Nat) : Ext (Own O σ) w (Own O (σ ++ [⟨some ⟨w.heap.size, 0, none⟩, n⟩])) (w.alloc o) where
 os := rfl
 tape := rfl
 output := rfl
 size := by simp
 keep b hb _ := Below.heap_alloc w o b hb
 grow b hb := by
  rcases KC.1 hb with h | h
  ·exact .inl h
  ·exact .inr (Nat.le_of_eq h.symm)
theorem qp {h : Heap} (hh : HRep (Own O σ) w σ h) (o : Obj) (x : SE) : Hold [] w σ (w.alloc o) (σ ++ [x]) := by
 intro i e he _
 refine ⟨by rw [List.getElem?_append_left (List.getElem?_eq_some_iff.1 he).1]; exact he, fun ad had cs el hcs => ⟨cs, el, ?_, rfl⟩⟩
 rw [Below.heap_alloc w o _ (hh.lt i e ad he had)]; exact hcs
theorem qO (b : Blk) : jm [] b = b := by
 cases b <;> simp [jm]
 have : zy [] = id := rfl
 rw [this]; simp
theorem jE {h : Heap} (hh : HRep (Own O σ) w σ h) {ob : Obj} {n : Nat} {B : Blk}
  (hB : BRep (Own O (σ ++ [⟨some ⟨w.heap.size, 0, none⟩, n⟩])) (w.alloc ob) (σ ++ [⟨some ⟨w.heap.size, 0, none⟩, n⟩]) ⟨some ⟨w.heap.size, 0, none⟩, n⟩ B) :
  HRep (Own O (σ ++ [⟨some ⟨w.heap.size, 0, none⟩, n⟩])) (w.alloc ob) (σ ++ [⟨some ⟨w.heap.size, 0, none⟩, n⟩]) (h ++ [B]) := by
 have hget : ∀ (i : Nat) (e : SE), (σ ++ [(⟨some ⟨w.heap.size, 0, none⟩, n⟩ : SE)])[i]? = some e → σ[i]? = some e ∨ (i = σ.length ∧ e = ⟨some ⟨w.heap.size, 0, none⟩, n⟩) := by
  intro i e he
  rw [List.getElem?_append] at he
  split at he
  ·exact .inl he
  ·rename_i hi
   right
   have : i - σ.length = 0 := by
    have := (List.getElem?_eq_some_iff.1 he).1
    simp at this; omega
   rw [this] at he
   simp at he
   exact ⟨by omega, he.symm⟩
 refine ⟨by simp [hh.len], ?_, ?_, ?_⟩
 ·intro i j e f a b he hf ha hb hne
  rcases hget i e he with he | ⟨hi, rfl⟩ <;> rcases hget j f hf with hf | ⟨hj, rfl⟩
  ·exact hh.inj i j e f a b he hf ha hb hne
  ·have := hh.lt i e a he ha
   cases hb; simp; omega
  ·have := hh.lt j f b hf hb
   cases ha; simp; omega
  ·omega
 ·intro i e a he ha
  rcases hget i e he with he | ⟨hi, rfl⟩
  ·have := hh.lt i e a he ha
   simp; omega
  ·cases ha; simp
 ·intro i e b he hb
  rcases hget i e he with he | ⟨hi, rfl⟩
  ·rw [List.getElem?_append_left (by rw [← hh.len]; exact (List.getElem?_eq_some_iff.1 he).1)] at hb
   have := qF (qb hh ob n) (qp hh ob ⟨some ⟨w.heap.size, 0, none⟩, n⟩) (hh.blk i e b he hb) (fun ad had => Below.heap_alloc w _ _ (hh.lt i e ad he had))
   rwa [qO] at this
  ·rw [List.getElem?_append_right (by rw [← hh.len]; omega), ← hh.len, hi] at hb
   simp at hb
   subst hb
   exact hB
structure Turn (w w' : World) (b : Nat) : Prop where
 os : w'.os = w.os
 tape : w'.tape = w.tape
 output : w'.output = w.output
 size : w'.heap.size = w.heap.size
 other : ∀ k, k ≠ b → w'.heap[k]? = w.heap[k]?
theorem kB (w : World) (b : Nat) (cs : Array Value) : Turn w (w.setRow b cs) b := ⟨rfl, rfl, rfl, by simp, fun k hk => setRow_other w b k cs hk⟩
theorem q8 {w' : World} {b : Nat} (ht : Turn w w' b) (hb : Own O σ b) : Ext (Own O σ) w (Own O σ) w' :=
 ⟨ht.os, ht.tape, ht.output, Nat.le_of_eq ht.size.symm, fun k hk hn => ht.other k (fun e => hn (e ▸ hb)), fun k hk => .inl hk⟩
theorem wD {w' : World} {b : Nat} (ht : Turn w w' b) (hs : ∀ cs el, w.heap[b]? = some (.cells cs el (0, 0)) → ∃ cs' el', w'.heap[b]? = some (.cells cs' el' (0, 0)) ∧ cs'.size = cs.size) : Hold [] w σ w' σ := by
 intro i e he _
 refine ⟨he, fun ad had cs el hcs => ?_⟩
 by_cases h : ad.block = b
 ·subst h; exact hs cs el hcs
 ·exact ⟨cs, el, (ht.other _ h).trans hcs, rfl⟩
theorem u3 {w' : World} {h : Heap} {i : Nat} {e : SE} {ad : Addr} {B : Blk} (hh : HRep (Own O σ) w σ h) (he : σ[i]? = some e) (had : e.ad = some ad) (ht : Turn w w' ad.block)
  (hs : ∀ cs el, w.heap[ad.block]? = some (.cells cs el (0, 0)) → ∃ cs' el', w'.heap[ad.block]? = some (.cells cs' el' (0, 0)) ∧ cs'.size = cs.size)
  (hB : BRep (Own O σ) w' σ e B) : HRep (Own O σ) w' σ (zU h i B) := by
 have hi : i < h.length := by rw [← hh.len]; exact (List.getElem?_eq_some_iff.1 he).1
 have hown : Own O σ ad.block := .inr ⟨e, List.mem_of_getElem? he, ad, had, rfl⟩
 simp only [zU, if_pos hi]
 refine ⟨by simp [hh.len], hh.inj, fun j f a hf ha => by rw [ht.size]; exact hh.lt j f a hf ha, ?_⟩
 intro j f b hf hb
 rw [List.getElem?_set] at hb
 split at hb
 ·rename_i hij
  subst hij
  simp at hb
  obtain ⟨_, rfl⟩ := hb
  rw [he] at hf; cases hf
  exact hB
 ·rename_i hij
  have := qF (q8 ht hown) (wD ht hs) (hh.blk j f b hf hb) (fun a ha => ht.other _ (hh.inj j i f e a ad hf he ha had (fun h => hij h.symm)))
  rwa [qO] at this
theorem wN {a : AV} {v : Value} (h1 : oneA a = true) (h : Rep own w a σ v) : v.oneCell' = true := by
 cases a with
 | sl n sz g => simp only [Rep] at h; obtain ⟨a, cap, rfl, _⟩ := h; rfl
 | osl i sz off n => simp only [Rep] at h; obtain ⟨e, he, hl, a, cap, rfl, _⟩ := h; rfl
 | ptr i off => simp only [Rep] at h; obtain ⟨e, ad, he, had, rfl⟩ := h; rfl
 | eptr i sz idx off => simp only [Rep] at h; obtain ⟨e, ad, he, had, hl, rfl⟩ := h; rfl
 | iptr m g => simp only [Rep] at h; obtain ⟨ad, rfl, _⟩ := h; rfl
 | fn f a b => simp only [Rep] at h; obtain ⟨va, vb, rfl, _⟩ := h; rfl
 | mp k ag sz ks has get => simp only [Rep] at h; obtain ⟨b, es, clock, rfl, _⟩ := h; rfl
 | omap i => simp only [Rep] at h; obtain ⟨e, ad, he, had, rfl⟩ := h; rfl
 | agg _ => simp [oneA] at h1
 | tup _ => simp [oneA] at h1
 | undef => simp [oneA] at h1
 | opt _ _ _ => simp [oneA] at h1
 | _ => simp only [Rep] at h; subst h; rfl
theorem jQ {h : Heap} (hh : HRep (Own O σ) w σ h) (hg : Good O w σ) (o : Obj) (n : Nat) : Good O (w.alloc o) (σ ++ [⟨some ⟨w.heap.size, 0, none⟩, n⟩]) := by
 refine ⟨fun b hb => by have := hg.old b hb; simp; omega, fun i e ad he had hO => ?_, hg.stat.ext (qb hh o n)⟩
 rw [List.getElem?_append] at he
 split at he
 ·exact hg.dis i e ad he had hO
 ·have : i - σ.length = 0 := by
   have := (List.getElem?_eq_some_iff.1 he).1
   simp at this; omega
  rw [this] at he
  simp at he
  subst he
  simp at had
  subst had
  have := hg.old _ hO
  simp at this
theorem uF {h : Heap} (hg : Good O w σ) (hh : HRep (Own O σ) w σ h) {cs : List AV} {vs : List Value} {el : TypeId} (hr : RepL (Own O σ) w cs σ vs) :
  Post O w σ h ⟨.ptr h.length 0, [(h.length, .box cs)], []⟩ (.pointer (some ⟨w.heap.size, 0, none⟩)) (w.alloc (.cells vs.toArray el)) (σ ++ [⟨some ⟨w.heap.size, 0, none⟩, 0⟩]) where
 rep := by
  simp only [Rep]
  exact ⟨⟨some ⟨w.heap.size, 0, none⟩, 0⟩, ⟨w.heap.size, 0, none⟩, by rw [← hh.len]; simp, rfl, by simp⟩
 ext := qb hh _ _
 hold := qp hh _ _
 good := jQ hh hg _ _
 ky b _ hb := Below.heap_alloc w _ b hb
 fr i e ad he had _ := Below.heap_alloc w _ _ (hh.lt i e ad he had)
 hp := by
  simp only [zB, zm, zU, Nat.lt_irrefl, if_false]
  exact jE hh (by
   simp only [BRep]
   exact ⟨_, vs, el, rfl, rfl, heap_alloc_new w _, qv (qb hh _ 0) (qp hh _ _) _ _ (j5 _) hr⟩)
def frzS (K : List Nat) (σ : List SE) : List SE := σ.zipIdx.map fun p => if K.contains p.2 then ⟨none, 0⟩ else p.1
theorem wo (K : List Nat) (σ : List SE) (i : Nat) : (frzS K σ)[i]? = (σ[i]?).map fun e => if K.contains i then ⟨none, 0⟩ else e := by
 simp only [frzS, List.getElem?_map, List.getElem?_zipIdx]
 cases σ[i]? <;> simp
theorem Zw {K : List Nat} {b : Nat} (h : Own O (frzS K σ) b) : O b ∨ ∃ i e ad, σ[i]? = some e ∧ i ∉ K ∧ e.ad = some ad ∧ ad.block = b := by
 rcases h with h | ⟨e, he, ad, h1, h2⟩
 ·exact .inl h
 right
 obtain ⟨i, hi⟩ := List.mem_iff_getElem?.1 he
 rw [wo] at hi
 cases hs : σ[i]? with
 | none => simp [hs] at hi
 | some e' =>
  simp only [hs, Option.map_some, Option.some.injEq] at hi
  split at hi
  ·subst hi; simp at h1
  ·rename_i hk
   subst hi
   exact ⟨i, e', ad, hs, by simpa using hk, h1, h2⟩
theorem kC {K : List Nat} {b : Nat} (h : Own O (frzS K σ) b) : Own O σ b := by
 rcases Zw h with h | ⟨i, e, ad, h1, _, h2, h3⟩
 ·exact .inl h
 ·exact .inr ⟨e, List.mem_of_getElem? h1, ad, h2, h3⟩
theorem jB (K : List Nat) (w : World) (σ : List SE) : Ext (Own O σ) w (Own O (frzS K σ)) w := ⟨rfl, rfl, rfl, Nat.le_refl _, fun _ _ _ => rfl, fun _ h => .inl (kC h)⟩
theorem yR (K : List Nat) (hg : Good O w σ) : Good O w (frzS K σ) := by
 refine ⟨hg.old, fun i e ad he had => ?_, hg.stat.ext (jB K w σ)⟩
 rw [wo] at he
 cases hs : σ[i]? with
 | none => simp [hs] at he
 | some e' =>
  simp only [hs, Option.map_some, Option.some.injEq] at he
  split at he
  ·subst he; simp at had
  ·subst he; exact hg.dis i e' ad hs had
theorem kX (K : List Nat) (w : World) (σ : List SE) : Hold K w σ w (frzS K σ) := by
 intro i e he hk
 refine ⟨by rw [wo, he]; simp [hk], fun _ _ cs el h => ⟨cs, el, h, rfl⟩⟩
def vn (K : List Nat) (h : Heap) : Heap := h.zipIdx.map fun p => if K.contains p.2 then .dead else p.1
theorem wH (K : List Nat) (h : Heap) (i : Nat) : (vn K h)[i]? = (h[i]?).map fun e => if K.contains i then .dead else e := by
 simp only [vn, List.getElem?_map, List.getElem?_zipIdx]
 cases h[i]? <;> simp
theorem xY {h : Heap} (hh : HRep (Own O σ) w σ h) (K : List Nat) : HRep (Own O (frzS K σ)) w (frzS K σ) (vn K (zB K h)) := by
 have hget : ∀ (i : Nat) (e : SE), (frzS K σ)[i]? = some e → (i ∈ K ∧ e = ⟨none, 0⟩) ∨ (i ∉ K ∧ σ[i]? = some e) := by
  intro i e he
  rw [wo] at he
  cases hs : σ[i]? with
  | none => simp [hs] at he
  | some e' =>
   simp only [hs, Option.map_some, Option.some.injEq] at he
   split at he
   ·rename_i hk; exact .inl ⟨by simpa using hk, he.symm⟩
   ·rename_i hk; subst he; exact .inr ⟨by simpa using hk, rfl⟩
 refine ⟨by simp [frzS, vn, zR, hh.len], ?_, ?_, ?_⟩
 ·intro i j e f a b he hf ha hb hne
  rcases hget i e he with ⟨_, rfl⟩ | ⟨_, he⟩
  ·cases ha
  rcases hget j f hf with ⟨_, rfl⟩ | ⟨_, hf⟩
  ·cases hb
  exact hh.inj i j e f a b he hf ha hb hne
 ·intro i e a he ha
  rcases hget i e he with ⟨_, rfl⟩ | ⟨_, he⟩
  ·cases ha
  exact hh.lt i e a he ha
 ·intro i e b he hb
  rw [wH, zR, List.getElem?_map] at hb
  cases hx : h[i]? with
  | none => simp [hx] at hb
  | some b' =>
   simp only [hx, Option.map_some, Option.some.injEq] at hb
   rcases hget i e he with ⟨hk, rfl⟩ | ⟨hk, he⟩
   ·rw [if_pos (by simpa using hk)] at hb
    subst hb; trivial
   ·rw [if_neg (by simpa using hk)] at hb
    subst hb
    exact qF (jB K w σ) (kX K w σ) (hh.blk i e b' he hx) (fun _ _ => rfl)
theorem Z7 : ∀ (K : List Nat) (h : Heap), (∀ i ∈ K, i < h.length) → zm h (kW K) = vn K h
 | [], h, _ => by
  simp only [kW, List.map_nil, zm]
  apply List.ext_getElem?
  intro i
  rw [wH]
  cases h[i]? <;> simp
 | k :: K, h, hk => by
  have h1 := hk k (by simp)
  have : zm h (kW (k :: K)) = zm (h.set k .dead) (kW K) := by
   simp [kW, zm, zU, h1]
  rw [this, Z7 K _ (fun i hi => by simpa using hk i (by simp [hi]))]
  apply List.ext_getElem?
  intro i
  rw [wH, wH, List.getElem?_set]
  by_cases hik : k = i
  ·subst hik
   simp [h1]
  ·cases hx : h[i]? with
   | none => simp [hik, hx]
   | some b =>
    simp only [if_neg hik, hx, Option.map_some, Option.some.injEq]
    have : ((k :: K).contains i) = (K.contains i) := by simp [Ne.symm hik]
    rw [this]
theorem xL {h : Heap} (hg : Good O w σ) (hh : HRep (Own O σ) w σ h) {a a' : AV} {v : Value} {k K : List Nat} (ha : Rep (Own O σ) w a σ v) (hf : frz1 h a = some (a', k)) (hk : ∀ i ∈ k, i ∈ K) :
  Rep (Own O (frzS K σ)) w a' [] v ∧ oneA a' = true ∧ ∀ i ∈ k, i < h.length := by
 cases a with
 | osl i sz off n =>
  have ha' := ha
  simp only [frz1] at hf
  split at hf
  ·rename_i n' sz' g hs
   simp only [Option.some.injEq, Prod.mk.injEq] at hf
   obtain ⟨rfl, rfl⟩ := hf
   simp only [Rep] at ha
   obtain ⟨e, he, hl, a0, cap0, hv, hc0, hr0⟩ := ha
   obtain ⟨ad, cap, rfl, hc, hr⟩ := uo hh ha' hs
   simp only [Value.slice.injEq] at hv
   obtain ⟨rfl, rfl, rfl⟩ := hv
   refine ⟨?_, rfl, fun j hj => by simp at hj; subst hj; rw [← hh.len]; exact (List.getElem?_eq_some_iff.1 he).1⟩
   simp only [Rep]
   refine ⟨ad, cap, rfl, hc, ?_⟩
   rcases hr with hr | ⟨d, hd, hsp, hr⟩
   ·exact .inl hr
   ·refine .inr ⟨d, hd, hsp, fun j o hj ho => ?_⟩
    obtain ⟨c, h1, h2, h3⟩ := hr j o hj ho
    refine ⟨fun hown => ?_, c, h1, h2, zi (jB K w σ) _ _ h3⟩
    rcases hr0 with hr0 | ⟨ad2, h8, h9, _⟩
    ·omega
    ·rw [hd] at h9
     cases h9
     rcases Zw hown with hO | ⟨i', e', ad', h4, h5, h6, h7⟩
     ·exact hg.dis i e ad2 he h8 hO
     exact hh.inj i' i e' e ad' ad2 h4 he h6 h8 (fun hii => h5 (hii ▸ hk i (by simp))) h7
  ·cases hf
 | ptr _ _ => simp [frz1] at hf
 | eptr _ _ _ _ => simp [frz1] at hf
 | omap _ => simp [frz1] at hf
 | agg _ => simp [frz1] at hf
 | tup _ => simp [frz1] at hf
 | opt _ _ _ => simp [frz1] at hf
 | undef => simp [frz1] at hf
 | fn f x y =>
  match x, y, hf with
  | [], [], hf =>
   simp only [frz1, Option.some.injEq, Prod.mk.injEq] at hf
   obtain ⟨rfl, rfl⟩ := hf
   refine ⟨?_, rfl, by simp⟩
   simp only [Rep] at ha ⊢
   obtain ⟨va, vb, hv, h1, h2⟩ := ha
   exact ⟨va, vb, hv, by simpa [RepL] using h1, by simpa [RepL] using h2⟩
  | [], _ :: _, hf => simp [frz1] at hf
  | _ :: _, _, hf => simp [frz1] at hf
 | sl n sz g =>
  simp only [frz1, Option.some.injEq, Prod.mk.injEq] at hf
  obtain ⟨rfl, rfl⟩ := hf
  exact ⟨zi (jB K w σ) _ _ (by simpa only [Rep] using ha), rfl, by simp⟩
 | iptr m g =>
  simp only [frz1, Option.some.injEq, Prod.mk.injEq] at hf
  obtain ⟨rfl, rfl⟩ := hf
  exact ⟨zi (jB K w σ) _ _ (by simpa only [Rep] using ha), rfl, by simp⟩
 | mp k ag sz ks has get =>
  simp only [frz1, Option.some.injEq, Prod.mk.injEq] at hf
  obtain ⟨rfl, rfl⟩ := hf
  exact ⟨zi (jB K w σ) _ _ (by simpa only [Rep] using ha), rfl, by simp⟩
 | _ =>
  simp only [frz1, Option.some.injEq, Prod.mk.injEq] at hf
  obtain ⟨rfl, rfl⟩ := hf
  exact ⟨by simpa only [Rep] using ha, rfl, by simp⟩
theorem wO {h : Heap} (hg : Good O w σ) (hh : HRep (Own O σ) w σ h) : ∀ {l l' : List AV} {vs : List Value} {k K : List Nat}, RepL (Own O σ) w l σ vs → frzL h l = some (l', k) → (∀ i ∈ k, i ∈ K) →
  RepL (Own O (frzS K σ)) w l' [] vs ∧ (∀ a ∈ l', oneA a = true) ∧ ∀ i ∈ k, i < h.length
 | [], l', vs, k, K, hr, hf, hk => by
  simp only [frzL, Option.some.injEq, Prod.mk.injEq] at hf
  obtain ⟨rfl, rfl⟩ := hf
  exact ⟨by simpa [RepL] using hr, by simp, by simp⟩
 | a :: l, l', vs, k, K, hr, hf, hk => by
  simp only [frzL] at hf
  split at hf
  ·rename_i a' i l2 k2 h1 h2
   simp only [Option.some.injEq, Prod.mk.injEq] at hf
   obtain ⟨rfl, rfl⟩ := hf
   simp only [RepL] at hr ⊢
   obtain ⟨v, r, rfl, h3, h4⟩ := hr
   obtain ⟨h5, h6, h7⟩ := xL hg hh h3 h1 (K := K) (fun i hi => hk i (by simp [hi]))
   obtain ⟨h8, h9, h10⟩ := wO hg hh h4 h2 (K := K) (fun i hi => hk i (by simp [hi]))
   refine ⟨⟨v, r, rfl, h5, h8⟩, ?_, ?_⟩
   ·intro x hx
    rcases List.mem_cons.1 hx with rfl | hx
    ·exact h6
    ·exact h9 x hx
   ·intro x hx
    rcases List.mem_append.1 hx with hx | hx
    ·exact h7 x hx
    ·exact h10 x hx
  ·cases hf
end
end Go.Sx
end

/- Slices that are made, stores, appends. -/
section
namespace Go.Sx
variable [Stat]
open Go.RowKit (Below)
section
variable {O : Nat → Prop} {w : World} {σ : List SE} {P : Program}
theorem Hold.Vt {K : List Nat} {w1 w2 w3 : World} {σ1 σ2 σ3 : List SE} (h : Hold K w1 σ1 w2 σ2) (k : Hold [] w2 σ2 w3 σ3) : Hold K w1 σ1 w3 σ3 := by
 intro i e he hk
 obtain ⟨h1, h2⟩ := h i e he hk
 obtain ⟨h3, h4⟩ := k i e h1 (by simp)
 refine ⟨h3, fun ad had cs el hcs => ?_⟩
 obtain ⟨cs', el', h5, h6⟩ := h2 ad had cs el hcs
 obtain ⟨cs'', el'', h7, h8⟩ := h4 ad had cs' el' h5
 exact ⟨cs'', el'', h7, by omega⟩
theorem ZD {l : List AV} : ∀ (n i : Nat), i < n * l.length → (List.replicate n l).flatten[i]? = l[i % l.length]?
 | 0, i, h => by simp at h
 | n + 1, i, h => by
  rw [List.replicate_succ, List.flatten_cons, List.getElem?_append]
  split
  ·rename_i hi; rw [Nat.mod_eq_of_lt hi]
  ·rename_i hi
   rw [ZD n _ (by rw [Nat.succ_mul] at h; omega)]
   congr 1
   rw [← Nat.mod_eq_sub_mod (by omega)]
theorem zaj {own : Nat → Prop} {w : World} {σ : List SE} {b : Nat} {vs : List Value} {el : TypeId} {n sz : Nat} {cs : List AV} (hm : w.heap[b]? = some (.cells vs.toArray el (0, 0))) (hl : cs.length = n * sz)
  (hr : RepL own w cs [] vs) (h1 : ∀ a ∈ cs, oneA a = true) : BRep own w σ ⟨some ⟨b, 0, none⟩, n⟩ (.arr n sz (zf sz cs)) := by
 simp only [BRep]
 refine ⟨by trivial, .inr ⟨_, _, _, rfl, hm, by simp [hr.length, hl], fun j o hj ho => ?_⟩⟩
 have hlt : j * sz + o < cs.length := by
  rw [hl]
  have : (j + 1) * sz ≤ n * sz := Nat.mul_le_mul_right _ (by omega)
  rw [Nat.succ_mul] at this; omega
 obtain ⟨v, hv, hR⟩ := hr.get (List.getElem?_eq_getElem hlt)
 refine ⟨v, by simpa using hv, wN (h1 _ (List.getElem_mem hlt)) hR, ?_⟩
 simp only [zf, List.getD, List.getElem?_eq_getElem hlt, Option.getD_some]
 exact hR
theorem ZK {h : Heap} (hg : Good O w σ) (hh : HRep (Own O σ) w σ h) {t e : TypeId} {len sz : Nat} {parts : Array (Nat × Operand)} {zs cs : List AV} {ρ : Operand → AV} {ρc : Operand → Value} (hρ : ∀ x, Rep (Own O σ) w (ρ x) σ (ρc x))
  (hu : P.underlying t = some (.slice e)) (hz : zeroCells P e = some zs) (hs : zW P e = some sz) (hlen : len * sz ≤ 16777216) (hzl : zs.length = sz)
  (hf : wP (fun i => some (i * sz, sz)) (List.replicate len zs).flatten (parts.toList.map fun p => (p.1, ρ p.2)) = some cs) :
  ∃ v w' σ', (Instr.buildSlice t len (parts.map fun (i, x) => (i, ρc x))).run P w = .ok v w' ∧ Post O w σ h ⟨.osl h.length sz 0 len, [(h.length, .box cs)], []⟩ v w' σ' := by
 obtain ⟨zv, hzv, hzr⟩ := wU (P := P) (own := Own O σ) (w := w) (σ := σ) hz
 have hzsz : zv.cells.size = sz := by have := hzr.length; simpa [hzl] using this
 have hparts : ∀ (i : Nat) (p : Nat × AV) (q : Nat × Value), (parts.toList.map fun p => (p.1, ρ p.2))[i]? = some p → ((parts.map fun (i, x) => (i, ρc x)).toList)[i]? = some q → p.1 = q.1 ∧ Rep (Own O σ) w p.2 σ q.2 := by
  intro i p q hp hq
  simp only [List.getElem?_map, Array.toList_map] at hp hq
  cases hx : parts.toList[i]? with
  | none => simp [hx] at hp
  | some x =>
   simp only [hx, Option.map_some, Option.some.injEq] at hp hq
   subst hp; subst hq
   exact ⟨rfl, hρ x.2⟩
 have hinit : RepL (Own O σ) w (List.replicate len zs).flatten σ ((Array.range (len * sz)).map (zv.cells[· % zv.cells.size]!)).toList := by
  refine zw.2 ⟨by simp [hzl], fun i a v ha hv => ?_⟩
  have hi : i < len * sz := by
   have := (List.getElem?_eq_some_iff.1 ha).1
   simpa [hzl] using this
  rw [ZD len i (by rw [hzl]; exact hi)] at ha
  have hpos : 0 < sz := by
   rcases Nat.eq_zero_or_pos sz with h0 | h0
   ·subst h0; simp at hi
   ·exact h0
  have hmod : i % sz < zv.cells.size := by rw [hzsz]; exact Nat.mod_lt _ hpos
  have hv' : zv.cells.toList[i % zs.length]? = some v := by
   simp only [Array.toList_map, List.getElem?_map, Array.toList_range, List.getElem?_range hi, Option.map_some, Option.some.injEq] at hv
   rw [hzsz] at hv
   rw [hzl]
   have hpos' : zv.cells[i % sz]! = zv.cells[i % sz] := getElem!_pos zv.cells (i % sz) hmod
   rw [hpos'] at hv
   subst hv
   simp [List.getElem?_eq_getElem (show i % sz < zv.cells.toList.length by simpa using hmod)]
  exact (zw.1 hzr).2 _ a v ha hv'
 obtain ⟨vout, h3, h4⟩ := wR (place := fun i => some (i * sz, sz)) (fun i x hx => hx) _ (parts.map fun (i, x) => (i, ρc x)).toList _ _ cs (by simp) hparts hinit hf
 have hclen : cs.length = len * sz := by
  have e2 := h4.length
  have e3 : cs.length = (List.replicate len zs).flatten.length := by
   have := hinit.length
   have : ∀ (parts : List (Nat × AV)) (c c' : List AV), wP (fun i => some (i * sz, sz)) c parts = some c' → c'.length = c.length := by
    intro parts
    induction parts with
    | nil => intro c c' h; simp only [wP, Option.some.injEq] at h; subst h; rfl
    | cons p parts ih =>
     intro c c' h
     obtain ⟨i, v⟩ := p
     simp only [wP] at h
     split at h
     ·rename_i cv hcv
      split at h
      ·rename_i hle
       rw [ih _ _ h]
       simp [setAt]; omega
      ·cases h
     ·cases h
   exact this _ _ _ hf
  simp [hzl] at e3
  omega
 refine ⟨.slice (some ⟨w.heap.size, 0, none⟩) len len, w.alloc (.cells vout e), σ ++ [⟨some ⟨w.heap.size, 0, none⟩, len⟩], ?_, ?_⟩
 ·have hnot : ¬ (len * sz > 2 ^ 24) := by omega
  simp only [Instr.buildSlice, Sem.run_bind, run_underlying hu, Result.andThen_ok, z1 hs, if_neg hnot]
  by_cases h0 : len * sz = 0
  ·have hrow : (Array.range (len * sz)).map ((#[] : Array Value)[· % (#[] : Array Value).size]!) = (Array.range (len * sz)).map (zv.cells[· % zv.cells.size]!) := by rw [h0]; simp
   rw [if_pos h0]
   simp only [Sem.run_bind, Sem.run_pure, Result.andThen_ok]
   rw [hrow, h3]
   simp [newRow]
  ·rw [if_neg h0]
   simp only [Sem.run_bind, Sem.run_pure, Result.andThen_ok, hzv]
   rw [h3]
   simp [newRow]
 ·refine ⟨?_, ?_, ?_, ?_, jQ hh hg _ _, fun b _ hb => Below.heap_alloc w _ b hb, fun i e ad he had _ => Below.heap_alloc w _ _ (hh.lt i e ad he had)⟩
  ·simp only [Rep]
   refine ⟨⟨some ⟨w.heap.size, 0, none⟩, len⟩, ?_, by simp, _, _, rfl, Nat.le_refl _, .inr ⟨_, rfl, by simp, vout, e, heap_alloc_new w _, ?_⟩⟩
   ·rw [← hh.len]; simp
   ·have := h4.length
    simp at this ⊢; omega
  ·exact qb hh _ _
  ·simp only [zB, zm, zU, Nat.lt_irrefl, if_false]
   exact jE hh (by
    simp only [BRep]
    exact ⟨_, vout.toList, e, rfl, rfl, by simpa using heap_alloc_new w (.cells vout e), qv (qb hh _ len) (qp hh _ _) _ _ (j5 _) h4⟩)
  ·exact qp hh _ _
theorem uw {h : Heap} (hg : Good O w σ) (hh : HRep (Own O σ) w σ h) {t e : TypeId} {len sz : Nat} {parts : Array (Nat × Operand)} {zs cs cs' : List AV} {k : List Nat} {ρ : Operand → AV} {ρc : Operand → Value} (hρ : ∀ x, Rep (Own O σ) w (ρ x) σ (ρc x))
  (hu : P.underlying t = some (.slice e)) (hz : zeroCells P e = some zs) (hs : zW P e = some sz) (hlen : len * sz ≤ 16777216) (hzl : zs.length = sz)
  (hf : wP (fun i => some (i * sz, sz)) (List.replicate len zs).flatten (parts.toList.map fun p => (p.1, ρ p.2)) = some cs) (hfr : frzL h cs = some (cs', k)) :
  ∃ v w' σ', (Instr.buildSlice t len (parts.map fun (i, x) => (i, ρc x))).run P w = .ok v w' ∧ Post O w σ h ⟨.osl h.length sz 0 len, (h.length, .arr len sz (zf sz cs')) :: kW k, k⟩ v w' σ' := by
 obtain ⟨zv, hzv, hzr⟩ := wU (P := P) (own := Own O σ) (w := w) (σ := σ) hz
 have hzsz : zv.cells.size = sz := by have := hzr.length; simpa [hzl] using this
 have hparts : ∀ (i : Nat) (p : Nat × AV) (q : Nat × Value), (parts.toList.map fun p => (p.1, ρ p.2))[i]? = some p → ((parts.map fun (i, x) => (i, ρc x)).toList)[i]? = some q → p.1 = q.1 ∧ Rep (Own O σ) w p.2 σ q.2 := by
  intro i p q hp hq
  simp only [List.getElem?_map, Array.toList_map] at hp hq
  cases hx : parts.toList[i]? with
  | none => simp [hx] at hp
  | some x =>
   simp only [hx, Option.map_some, Option.some.injEq] at hp hq
   subst hp; subst hq
   exact ⟨rfl, hρ x.2⟩
 have hinit : RepL (Own O σ) w (List.replicate len zs).flatten σ ((Array.range (len * sz)).map (zv.cells[· % zv.cells.size]!)).toList := by
  refine zw.2 ⟨by simp [hzl], fun i a v ha hv => ?_⟩
  have hi : i < len * sz := by
   have := (List.getElem?_eq_some_iff.1 ha).1
   simpa [hzl] using this
  rw [ZD len i (by rw [hzl]; exact hi)] at ha
  have hpos : 0 < sz := by
   rcases Nat.eq_zero_or_pos sz with h0 | h0
   ·subst h0; simp at hi
   ·exact h0
  have hmod : i % sz < zv.cells.size := by rw [hzsz]; exact Nat.mod_lt _ hpos
  have hv' : zv.cells.toList[i % zs.length]? = some v := by
   simp only [Array.toList_map, List.getElem?_map, Array.toList_range, List.getElem?_range hi, Option.map_some, Option.some.injEq] at hv
   rw [hzsz] at hv
   rw [hzl]
   have hpos' : zv.cells[i % sz]! = zv.cells[i % sz] := getElem!_pos zv.cells (i % sz) hmod
   rw [hpos'] at hv
   subst hv
   simp [List.getElem?_eq_getElem (show i % sz < zv.cells.toList.length by simpa using hmod)]
  exact (zw.1 hzr).2 _ a v ha hv'
 obtain ⟨vout, h3, h4⟩ := wR (place := fun i => some (i * sz, sz)) (fun i x hx => hx) _ (parts.map fun (i, x) => (i, ρc x)).toList _ _ cs (by simp) hparts hinit hf
 obtain ⟨h5, h6, h7⟩ := wO hg hh h4 hfr (K := k) (fun i hi => hi)
 have hclen : cs'.length = len * sz := by
  have e1 := h5.length
  have e2 := h4.length
  have e3 : cs.length = (List.replicate len zs).flatten.length := by
   have := hinit.length
   have : ∀ (parts : List (Nat × AV)) (c c' : List AV), wP (fun i => some (i * sz, sz)) c parts = some c' → c'.length = c.length := by
    intro parts
    induction parts with
    | nil => intro c c' h; simp only [wP, Option.some.injEq] at h; subst h; rfl
    | cons p parts ih =>
     intro c c' h
     obtain ⟨i, v⟩ := p
     simp only [wP] at h
     split at h
     ·rename_i cv hcv
      split at h
      ·rename_i hle
       rw [ih _ _ h]
       simp [setAt]; omega
      ·cases h
     ·cases h
   exact this _ _ _ hf
  simp [hzl] at e3
  omega
 have hh1 := xY hh k
 have hg1 := yR k hg
 refine ⟨.slice (some ⟨w.heap.size, 0, none⟩) len len, w.alloc (.cells vout e), frzS k σ ++ [⟨some ⟨w.heap.size, 0, none⟩, len⟩], ?_, ?_⟩
 ·have hnot : ¬ (len * sz > 2 ^ 24) := by omega
  simp only [Instr.buildSlice, Sem.run_bind, run_underlying hu, Result.andThen_ok, z1 hs, if_neg hnot]
  by_cases h0 : len * sz = 0
  ·have hrow : (Array.range (len * sz)).map ((#[] : Array Value)[· % (#[] : Array Value).size]!) = (Array.range (len * sz)).map (zv.cells[· % zv.cells.size]!) := by rw [h0]; simp
   rw [if_pos h0]
   simp only [Sem.run_bind, Sem.run_pure, Result.andThen_ok]
   rw [hrow, h3]
   simp [newRow]
  ·rw [if_neg h0]
   simp only [Sem.run_bind, Sem.run_pure, Result.andThen_ok, hzv]
   rw [h3]
   simp [newRow]
 ·refine ⟨?_, ?_, ?_, ?_, jQ (xY hh k) hg1 _ _, fun b _ hb => Below.heap_alloc w _ b hb, fun i e ad he had _ => Below.heap_alloc w _ _ (hh.lt i e ad he had)⟩
  ·simp only [Rep]
   refine ⟨⟨some ⟨w.heap.size, 0, none⟩, len⟩, ?_, by simp, _, _, rfl, Nat.le_refl _, .inr ⟨_, rfl, by simp, vout, e, heap_alloc_new w _, ?_⟩⟩
   ·rw [← hh.len, show σ.length = (frzS k σ).length by simp [frzS]]; simp
   ·have := h5.length
    simp at this ⊢; omega
  ·exact (jB k w σ).trans (qb hh1 _ _)
  ·have hle : ∀ i ∈ k, i < (zB k h ++ [Blk.arr len sz (zf sz cs')]).length := fun i hi => by simp [zR]; have := h7 i hi; omega
   have : zm (zB k h) ((h.length, .arr len sz (zf sz cs')) :: kW k) = vn k (zB k h) ++ [Blk.arr len sz (zf sz cs')] := by
    have hl : (zB k h).length = h.length := by simp [zR]
    simp only [zm, zU, ← hl, Nat.lt_irrefl, if_false]
    rw [Z7 _ _ (fun i hi => hle i hi)]
    simp only [vn, List.zipIdx_append, List.map_append, List.zipIdx_singleton, List.map_cons, List.map_nil, Nat.zero_add]
    congr 2
    rw [if_neg (by simp; intro hc; have := h7 _ hc; omega)]
   rw [this]
   exact jE hh1 (zaj (by rw [heap_alloc_new]) hclen (wF (qb hh1 _ _) _ _ h5) h6)
  ·exact (kX k w σ).Vt (qp hh1 _ _)
theorem ZT {K : List Nat} {w' : World} {h : Heap} {i : Nat} {e e' : SE} {B : Blk} (hh : HRep (Own O σ) w σ h) (he : σ[i]? = some e) (hx : Ext (Own O σ) w (Own O (σ.set i e')) w') (hold : Hold K w σ w' (σ.set i e'))
  (hother : ∀ (j : Nat) (f : SE) (ad : Addr), j ≠ i → σ[j]? = some f → f.ad = some ad → w'.heap[ad.block]? = w.heap[ad.block]?)
  (hdis : ∀ (j : Nat) (f : SE) (ad ad' : Addr), j ≠ i → σ[j]? = some f → f.ad = some ad → e'.ad = some ad' → ad.block ≠ ad'.block)
  (hlt : ∀ ad', e'.ad = some ad' → ad'.block < w'.heap.size) (hB : BRep (Own O (σ.set i e')) w' (σ.set i e') e' B) :
  HRep (Own O (σ.set i e')) w' (σ.set i e') (zU (zB K h) i B) := by
 have hi : i < (zB K h).length := by simp [zR, ← hh.len]; exact (List.getElem?_eq_some_iff.1 he).1
 have hget : ∀ (j : Nat) (f : SE), (σ.set i e')[j]? = some f → (j = i ∧ f = e') ∨ (j ≠ i ∧ σ[j]? = some f) := by
  intro j f hf
  rw [List.getElem?_set] at hf
  split at hf
  ·rename_i hij
   split at hf
   ·exact .inl ⟨hij.symm, (Option.some.inj hf).symm⟩
   ·cases hf
  ·rename_i hij; exact .inr ⟨fun h => hij h.symm, hf⟩
 simp only [zU, if_pos hi]
 refine ⟨by simp [zR, hh.len], ?_, ?_, ?_⟩
 ·intro j k f g a b hf hk ha hb hne
  rcases hget j f hf with ⟨e1, e2⟩ | ⟨hj, hf'⟩ <;> rcases hget k g hk with ⟨e3, e4⟩ | ⟨hk', hk2⟩
  ·omega
  ·subst e2; exact fun h => hdis k g b a hk' hk2 hb ha h.symm
  ·subst e4; exact hdis j f a b hj hf' ha hb
  ·exact hh.inj j k f g a b hf' hk2 ha hb hne
 ·intro j f a hf ha
  rcases hget j f hf with ⟨rfl, rfl⟩ | ⟨hj, hf⟩
  ·exact hlt a ha
  ·exact Nat.lt_of_lt_of_le (hh.lt j f a hf ha) hx.size
 ·intro j f b hf hb
  rcases hget j f hf with ⟨rfl, rfl⟩ | ⟨hj, hf⟩
  ·rw [List.getElem?_set_self hi] at hb
   cases hb; exact hB
  ·rw [List.getElem?_set_ne (fun h => hj h.symm), zR, List.getElem?_map] at hb
   cases hx' : h[j]? with
   | none => simp [hx'] at hb
   | some b' =>
    simp only [hx', Option.map_some, Option.some.injEq] at hb
    subst hb
    exact qF hx hold (hh.blk j f b' hf hx') (fun ad had => hother j f ad hj hf had)
theorem Yp {h : Heap} (hg : Good O w σ) (hh : HRep (Own O σ) w σ h) {t : TypeId} {i off n : Nat} {cells cv : List AV} {va v : Value} (ha : Rep (Own O σ) w (.ptr i off) σ va) (hb : h[i]? = some (.box cells))
  (hn : zW P t = some n) (hr : RepL (Own O σ) w cv σ v.cells.toList) (hl : cv.length = n) (hle : off + n ≤ cells.length) (h1 : cv.all oneA = true) :
  ∃ w', (Instr.storeAt t va v).run P w = .ok () w' ∧ Post O w σ h ⟨.undef, [(i, .box (setAt cells off cv))], []⟩ undef w' σ := by
 simp only [Rep] at ha
 obtain ⟨e, ad, he, had, rfl⟩ := ha
 obtain ⟨ad', vs, el, had', h0, hcs, hrb⟩ := hh.blk i e _ he hb
 rw [had] at had'; cases had'
 have hlen := hr.length
 have hlb := hrb.length
 have hone : ∀ u ∈ v.cells.toList, u.oneCell' = true := by
  intro u hu
  obtain ⟨j, hj, hju⟩ := List.mem_iff_getElem.1 hu
  have hj' : j < cv.length := by omega
  exact wN (List.all_eq_true.1 h1 _ (List.getElem_mem hj')) ((zw.1 hr).2 j cv[j] u (List.getElem?_eq_getElem hj') (by rw [List.getElem?_eq_getElem hj, hju]))
 have hst := run_storeCells_at P ad.block off el v.cells.toList 0 vs.toArray w hcs (by simp at hlen ⊢; omega) hone
 simp only [Nat.add_zero, List.toList_toArray] at hst
 have hrow : (w.setRow ad.block (vs.take off ++ v.cells.toList ++ vs.drop (off + v.cells.toList.length)).toArray).heap[ad.block]? = some (.cells (vs.take off ++ v.cells.toList ++ vs.drop (off + v.cells.toList.length)).toArray el (0, 0)) := setRow_heap w _ _ _ _ _ hcs
 have ht := kB w ad.block (vs.take off ++ v.cells.toList ++ vs.drop (off + v.cells.toList.length)).toArray
 have hsz : ∀ cs el, w.heap[ad.block]? = some (.cells cs el (0, 0)) → ∃ cs' el', (w.setRow ad.block (vs.take off ++ v.cells.toList ++ vs.drop (off + v.cells.toList.length)).toArray).heap[ad.block]? = some (.cells cs' el' (0, 0)) ∧ cs'.size = cs.size := by
  intro cs el2 h
  rw [hcs] at h; cases h
  exact ⟨_, _, hrow, by simp at hlen ⊢; omega⟩
 have hown : Own O σ ad.block := .inr ⟨e, List.mem_of_getElem? he, ad, had, rfl⟩
 refine ⟨w.setRow ad.block (vs.take off ++ v.cells.toList ++ vs.drop (off + v.cells.toList.length)).toArray, ?_, ?_⟩
 ·simp only [Instr.storeAt, Instr.sureAddr, Sem.run_bind, Sem.run_pure, Result.andThen_ok, storeVar, z1 hn]
  rw [if_neg (by simp at hlen ⊢; omega), h0, Nat.zero_add]
  exact hst
 ·refine ⟨trivial, q8 ht hown, ?_, wD ht hsz, ⟨fun b hb => by rw [ht.size]; exact hg.old b hb, hg.dis, hg.stat.ext (q8 ht hown)⟩, fun b hb _ => ht.other b (fun h => hg.dis i e ad he had (h ▸ hb)), fun j f a hf ha hj => ht.other _ (hh.inj j i f e a ad hf he ha had (by simpa using hj))⟩
  simp only [zB, zm]
  refine u3 hh he had ht hsz ?_
  simp only [BRep]
  refine ⟨ad, _, el, had, h0, hrow, qv (q8 ht hown) (wD ht hsz) _ _ (j5 _) (hrb.setAt hr (by omega))⟩
theorem u0 {h : Heap} (hg : Good O w σ) (hh : HRep (Own O σ) w σ h) {t : TypeId} {i sz idx off n N : Nat} {g : Nat → Nat → AV} {cv cv' : List AV} {k : List Nat} {va v : Value} (ha : Rep (Own O σ) w (.eptr i sz idx off) σ va) (hb : h[i]? = some (.arr N sz g))
  (hn : zW P t = some n) (hr : RepL (Own O σ) w cv σ v.cells.toList) (hl : cv.length = n) (hle : off + n ≤ sz) (hf : frzL h cv = some (cv', k)) (hk : i ∉ k) :
  ∃ w' σ', (Instr.storeAt t va v).run P w = .ok () w' ∧ Post O w σ h ⟨.undef, (i, .arr N sz (updG g idx off cv')) :: kW k, k⟩ undef w' σ' := by
 simp only [Rep] at ha
 obtain ⟨e, ad, he, had, hidx, rfl⟩ := ha
 obtain ⟨hen, hz | ⟨ad', cs, el, had', hcs, hsz, hrb⟩⟩ := hh.blk i e _ he hb
 ·omega
 rw [had] at had'; cases had'
 obtain ⟨h5, h6, h7⟩ := wO hg hh hr hf (K := k) (fun i hi => hi)
 have hlen := h5.length
 have hlen2 := hr.length
 have hone : ∀ u ∈ v.cells.toList, u.oneCell' = true := by
  intro u hu
  obtain ⟨j, hj, hju⟩ := List.mem_iff_getElem.1 hu
  have hj' : j < cv'.length := by omega
  exact wN (h6 _ (List.getElem_mem hj')) ((zw.1 h5).2 j cv'[j] u (List.getElem?_eq_getElem hj') (by rw [List.getElem?_eq_getElem hj, hju]))
 have hbnd : ad.off + (idx * sz + off) + v.cells.toList.length ≤ cs.size := by
  have : (idx + 1) * sz ≤ N * sz := Nat.mul_le_mul_right _ (by omega)
  rw [Nat.succ_mul] at this; omega
 have hst := run_storeCells_at P ad.block (ad.off + (idx * sz + off)) el v.cells.toList 0 cs w hcs (by omega) hone
 simp only [Nat.add_zero] at hst
 generalize hnew : (cs.toList.take (ad.off + (idx * sz + off)) ++ v.cells.toList ++ cs.toList.drop (ad.off + (idx * sz + off) + v.cells.toList.length)).toArray = cs' at hst
 have hcs'sz : cs'.size = cs.size := by rw [← hnew]; simp at hbnd ⊢; omega
 have hrow : (w.setRow ad.block cs').heap[ad.block]? = some (.cells cs' el (0, 0)) := setRow_heap w _ _ _ _ _ hcs
 have ht := kB w ad.block cs'
 have hszs : ∀ c el2, w.heap[ad.block]? = some (.cells c el2 (0, 0)) → ∃ c' el', (w.setRow ad.block cs').heap[ad.block]? = some (.cells c' el' (0, 0)) ∧ c'.size = c.size := by
  intro c el2 h
  rw [hcs] at h; cases h
  exact ⟨_, _, hrow, hcs'sz⟩
 have hh1 := xY hh k
 have he1 : (frzS k σ)[i]? = some e := by rw [wo, he]; simp [hk]
 have hown : Own O (frzS k σ) ad.block := .inr ⟨e, List.mem_of_getElem? he1, ad, had, rfl⟩
 refine ⟨w.setRow ad.block cs', frzS k σ, ?_, ?_⟩
 ·simp only [Instr.storeAt, Instr.sureAddr, Sem.run_bind, Sem.run_pure, Result.andThen_ok, storeVar, z1 hn]
  rw [if_neg (by simp at hlen2 ⊢; omega)]
  exact hst
 ·refine ⟨trivial, (jB k w σ).trans (q8 ht hown), ?_, (kX k w σ).Vt (wD ht hszs), ⟨fun b hb => by rw [ht.size]; exact hg.old b hb, (yR k hg).dis, (yR k hg).stat.ext (q8 ht hown)⟩, fun b hb _ => ht.other b (fun h => hg.dis i e ad he had (h ▸ hb)), fun j f a hf ha hj => ht.other _ (hh.inj j i f e a ad hf he ha had (fun h => hj (by simp [h])))⟩
  have hil : i < h.length := by rw [← hh.len]; exact (List.getElem?_eq_some_iff.1 he).1
  have heq : zm (zB k h) ((i, .arr N sz (updG g idx off cv')) :: kW k) = zU (vn k (zB k h)) i (.arr N sz (updG g idx off cv')) := by
   have hl1 : i < (zB k h).length := by simpa [zR] using hil
   have hl2 : i < (vn k (zB k h)).length := by simpa [vn, zR] using hil
   simp only [zm, zU, if_pos hl1, if_pos hl2]
   rw [Z7 _ _ (fun j hj => by simp [zR]; exact h7 j hj)]
   apply List.ext_getElem?
   intro j
   rw [wH, List.getElem?_set, List.getElem?_set, wH]
   by_cases hij : i = j
   ·subst hij; simp [hl1, hl2, hk]
   ·simp [hij]
  rw [heq]
  refine u3 hh1 he1 had ht hszs ?_
  simp only [BRep]
  refine ⟨hen, .inr ⟨ad, cs', el, had, hrow, by omega, fun j o hj ho => ?_⟩⟩
  obtain ⟨c, h8, h9, h10⟩ := hrb j o hj ho
  have hx := (jB k w σ).trans (q8 ht hown)
  have hpos : ∀ p : Nat, cs'[p]? = if ad.off + (idx * sz + off) ≤ p ∧ p < ad.off + (idx * sz + off) + v.cells.toList.length then v.cells.toList[p - (ad.off + (idx * sz + off))]? else cs[p]? := by
   intro p
   rw [← hnew]
   simp only [List.getElem?_toArray, List.getElem?_append, List.length_append, List.length_take, Array.length_toList]
   have hmin : min (ad.off + (idx * sz + off)) cs.size = ad.off + (idx * sz + off) := by omega
   rw [hmin]
   by_cases c1 : p < ad.off + (idx * sz + off)
   ·rw [if_pos (by omega), if_pos c1, if_neg (by omega)]
    rw [List.getElem?_take, if_pos c1, Array.getElem?_toList]
   ·by_cases c2 : p < ad.off + (idx * sz + off) + v.cells.size
    ·rw [if_pos (by simpa using c2), if_neg c1, if_pos ⟨by omega, by simpa using c2⟩]
    ·rw [if_neg (by simpa using c2), if_neg (by simp; omega), List.getElem?_drop, Array.getElem?_toList]
     congr 1
     have : v.cells.toList.length = v.cells.size := by simp
     omega
  by_cases hc : j = idx ∧ off ≤ o ∧ o < off + cv'.length
  ·obtain ⟨rfl, ho1, ho2⟩ := hc
   have hlt : o - off < cv'.length := by omega
   obtain ⟨u, hu, hR⟩ := h5.get (List.getElem?_eq_getElem hlt)
   refine ⟨u, ?_, wN (h6 _ (List.getElem_mem hlt)) hR, ?_⟩
   ·rw [hpos, if_pos ⟨by omega, by omega⟩]
    rw [← hu]; congr 1; omega
   ·simp only [updG, ho1, ho2, and_self, if_true]
    rw [show cv'.getD (o - off) .undef = cv'[o - off] by simp [List.getD, hlt]]
    exact zi (q8 ht hown) _ _ hR
  ·refine ⟨c, ?_, h9, ?_⟩
   ·rw [hpos, if_neg, h8]
    rintro ⟨a1, a2⟩
    apply hc
    have hjo : j = idx := by
     rcases Nat.lt_trichotomy j idx with hlt | heq | hgt
     ·have : (j + 1) * sz ≤ idx * sz := Nat.mul_le_mul_right _ (by omega)
      rw [Nat.succ_mul] at this; omega
     ·exact heq
     ·have : (idx + 1) * sz ≤ j * sz := Nat.mul_le_mul_right _ (by omega)
      rw [Nat.succ_mul] at this; omega
    subst hjo
    exact ⟨rfl, by omega, by omega⟩
   ·simp only [updG, if_neg hc]
    exact zi hx _ _ h10
end
end Go.Sx
end

/- make and append. -/
section
namespace Go.Sx
variable [Stat]
open Go.RowKit (Below)
section
variable {O : Nat → Prop} {w : World} {σ : List SE} {P : Program}
theorem vZ {own : Nat → Prop} {w : World} {t : TypeId} {i : TypeInfo} {cs : List AV} (h : zeroCells P t = some cs) (hi : P.info? t = some i) : ∃ v, i.zero = some v ∧ RepL own w cs [] v.cells.toList := by
 unfold zeroCells at h
 rw [hi] at h
 simp only at h
 split at h
 ·rename_i v hv
  exact ⟨v, hv, qy h (wh v)⟩
 ·cases h
theorem UY {z : Array Value} {n k : Nat} (hk : k < n) (hz : k % z.size < z.size) : (madeCells z n)[k]? = z[k % z.size]? := by
 have h0 : z[k % z.size]! = z[k % z.size] := getElem!_pos z (k % z.size) hz
 simp [madeCells, hk, h0, hz]
theorem uS {h : Heap} (hg : Good O w σ) (hh : HRep (Own O σ) w σ h) {t e : TypeId} {i : TypeInfo} {z : List AV} {kl kc : IntKind} {l c : Int} (hu : P.underlying t = some (.slice e)) (hi0 : P.info? e = some i) (hz : zeroCells P e = some z)
  (hzl : z.length = i.size) (hz1 : z.all oneA = true) (h0 : 0 ≤ l) (hlc : l ≤ c) (hc : inR .i64 c) (hb : c.toNat * i.bytes ≤ qX) :
  ∃ v w' σ', (Instr.makeSlice t (.int kl l) (.int kc c)).run P w = .ok v w' ∧ Post O w σ h ⟨.osl h.length i.size 0 l.toNat, [(h.length, .arr l.toNat i.size (kP z))], []⟩ v w' σ' := by
 obtain ⟨zv, hzv, hzr0⟩ := vZ (own := Own O σ) (w := w) hz hi0
 obtain ⟨zv', hzv', hzr⟩ := vZ (own := Own O (σ ++ [⟨some ⟨w.heap.size, 0, none⟩, l.toNat⟩])) (w := w.alloc (.cells (madeCells zv.cells (c.toNat * i.size)) e)) hz hi0
 rw [hzv] at hzv'; cases hzv'
 have hzs : zv.cells.size = i.size := by have := hzr.length; simpa [hzl] using this
 have hbytes : (i.bytes : Int) * c ≤ 281474976710656 := by
  have h1 : (i.bytes : Int) * c = ((c.toNat * i.bytes : Nat) : Int) := by
   rw [Int.natCast_mul, Int.toNat_of_nonneg (by omega), Int.mul_comm]
  rw [h1]; unfold qX at hb; omega
 have hc' : c ≤ 9223372036854775807 := hc.2
 have hr := run_make (P := P) w t e i zv hu hi0 hzv kl kc l c h0 hlc hbytes hc'
 have hlc' : l.toNat ≤ c.toNat := by omega
 refine ⟨_, _, σ ++ [⟨some ⟨w.heap.size, 0, none⟩, l.toNat⟩], hr, ?_, qb hh _ _, ?_, qp hh _ _, jQ hh hg _ _, fun b _ hb => Below.heap_alloc w _ b hb, fun i e ad he had _ => Below.heap_alloc w _ _ (hh.lt i e ad he had)⟩
 ·simp only [Rep]
  refine ⟨⟨some ⟨w.heap.size, 0, none⟩, l.toNat⟩, ?_, by simp, _, _, rfl, hlc', .inr ⟨_, rfl, by simp, _, e, heap_alloc_new w _, ?_⟩⟩
  ·rw [← hh.len]; simp
  ·simp [size_madeCells]
 ·simp only [zB, zm, zU, Nat.lt_irrefl, if_false]
  refine jE hh ?_
  simp only [BRep]
  refine ⟨by trivial, .inr ⟨_, _, e, rfl, heap_alloc_new w _, ?_, fun j o hj ho => ?_⟩⟩
  ·simp [size_madeCells]; exact Nat.mul_le_mul_right _ hlc'
  ·have hk : j * i.size + o < c.toNat * i.size := by
    have : (j + 1) * i.size ≤ c.toNat * i.size := Nat.mul_le_mul_right _ (by omega)
    rw [Nat.succ_mul] at this; omega
   have hmod : (j * i.size + o) % zv.cells.size = o := by
    rw [hzs, Nat.mul_comm, Nat.mul_add_mod]; exact Nat.mod_eq_of_lt ho
   have ho' : o < z.length := by omega
   obtain ⟨u, hu', hR⟩ := hzr.get (List.getElem?_eq_getElem ho')
   refine ⟨u, ?_, wN (List.all_eq_true.1 hz1 _ (List.getElem_mem ho')) hR, ?_⟩
   ·simp only [Nat.zero_add]
    rw [UY hk (by rw [hmod, hzs]; exact ho), hmod]
    simpa using hu'
   ·simp only [kP, List.getD, List.getElem?_eq_getElem ho', Option.getD_some]
    exact hR
theorem u6 {h : Heap} (hh : HRep (Own O σ) w σ h) {tx e' sz n : Nat} {g : Nat → Nat → AV} {a : AV} {va : Value} (hu : P.underlying tx = some (.slice e')) (ha : Rep (Own O σ) w a σ va) (hs : Wl sz h a = some (n, g)) :
  ∃ news, Src P sz tx va n news w ∧ ∀ j o, j < n → o < sz → ∃ c, news[j * sz + o]? = some c ∧ c.oneCell' = true ∧ Rep (Own O σ) w (g j o) [] c := by
 have key : ∀ sz', sz' = sz ∨ n = 0 → qw h a = some (n, sz', g) → ∃ news, Src P sz tx va n news w ∧ ∀ j o, j < n → o < sz → ∃ c, news[j * sz + o]? = some c ∧ c.oneCell' = true ∧ Rep (Own O σ) w (g j o) [] c := by
  intro sz' hsz hs
  obtain ⟨ad, cap, rfl, hc, hr⟩ := uo hh ha hs
  by_cases hn : n = 0
  ·subst hn
   refine ⟨[], ?_, fun j o hj => by omega⟩
   cases ad with
   | none => exact Src.ofNil w hu cap
   | some d => exact Src.ofSlice w hu d 0 cap [] (by simp) (by simp) (by simp)
  ·have hsz : sz' = sz := by omega
   subst hsz
   rcases hr with hr | ⟨d, rfl, hsp, hr⟩
   ·exact absurd hr hn
   by_cases hz : sz' = 0
   ·subst hz
    exact ⟨[], Src.ofSlice w hu d n cap [] (by simp) (by simp) (by simp), fun j o _ ho => by omega⟩
   have hpos : 0 < sz' := by omega
   obtain ⟨f, hf⟩ := Classical.axiomOfChoice (r := fun (k : Nat) c => k < n * sz' → w.cell? ⟨d.block, d.off + k, none⟩ = some c ∧ c.oneCell' = true ∧ Rep (Own O σ) w (g (k / sz') (k % sz')) [] c)
    (fun k => by
     by_cases hk : k < n * sz'
     ·obtain ⟨c, h1, h2, h3⟩ := hr (k / sz') (k % sz') (by rw [Nat.div_lt_iff_lt_mul hpos]; exact hk) (Nat.mod_lt _ hpos)
      exact ⟨c, fun _ => ⟨by rw [← h1]; congr 3; rw [Nat.mul_comm]; exact (Nat.div_add_mod k sz').symm, h2, h3⟩⟩
     ·exact ⟨undef, fun h => absurd h hk⟩)
   refine ⟨(List.range (n * sz')).map f, Src.ofSlice w hu d n cap _ (by simp) (fun j u hj => ?_) (fun u hu => ?_), fun j o hj ho => ?_⟩
   ·by_cases hjn : j < n * sz'
    ·simp [hjn] at hj; subst hj
     rw [add_plain hsp]; exact (hf j hjn).1
    ·simp [hjn] at hj
   ·obtain ⟨k, hk, rfl⟩ := List.mem_map.1 hu
    exact (hf k (by simpa using hk)).2.1
   ·have hk : j * sz' + o < n * sz' := by
     have : (j + 1) * sz' ≤ n * sz' := Nat.mul_le_mul_right _ (by omega)
     rw [Nat.succ_mul] at this; omega
    obtain ⟨h1, h2, h3⟩ := hf _ hk
    refine ⟨f (j * sz' + o), by simp [hk], h2, ?_⟩
    have e1 : (j * sz' + o) / sz' = j := by rw [Nat.mul_comm, Nat.mul_add_div hpos, Nat.div_eq_of_lt ho, Nat.add_zero]
    have e2 : (j * sz' + o) % sz' = o := by rw [Nat.mul_comm, Nat.mul_add_mod]; exact Nat.mod_eq_of_lt ho
    rw [e1, e2] at h3
    exact h3
 cases a with
 | nils =>
  simp only [Wl, Option.some.injEq, Prod.mk.injEq] at hs
  obtain ⟨rfl, rfl⟩ := hs
  exact key 0 (.inr rfl) rfl
 | _ =>
  simp only [Wl] at hs
  split at hs
  ·rename_i n' sz' g' hs'
   split at hs
   ·rename_i hz
    simp only [Option.some.injEq, Prod.mk.injEq] at hs
    obtain ⟨rfl, rfl⟩ := hs
    exact key sz' (.inl hz) hs'
   ·cases hs
  ·cases hs
theorem Q6 {t tx ty e : TypeId} {i : TypeInfo} {b o sLen sCap : Nat} {cur : Array Value} {el : TypeId} {x : Value} {n : Nat} {news : List Value} (ht : P.underlying t = some (.slice e)) (hi : P.info? e = some i) (hs : Src P i.size tx x n news w)
  (hroom : sLen + n ≤ sCap) (hcur : w.heap[b]? = some (.cells cur el (0, 0))) (hfit : o + sLen * i.size + news.length ≤ cur.size) :
  (Builtin.append_ #[t, tx] ty #[.slice (some ⟨b, o, none⟩) sLen sCap, x]).run P w = .ok (.slice (some ⟨b, o, none⟩) (sLen + n) sCap) (w.setRow b (cur.toList.take (o + sLen * i.size) ++ news ++ cur.toList.drop (o + sLen * i.size + news.length)).toArray) := by
 have hst := run_storeCells_at P b (o + sLen * i.size) el news 0 cur w hcur (by omega) hs.one
 simp only [Nat.add_zero] at hst
 rcases hs.kind with ⟨e', hk⟩ | hk <;> simp [Builtin.append_, run_underlying ht, run_underlying hk, sizeOf, typeInfo, hi, hs.len, hroom, hs.cells, Addr.add_lit, hst]
theorem ku {t tx ty e : TypeId} {i : TypeInfo} {base : Option Addr} {x : Value} (ht : P.underlying t = some (.slice e)) (hi : P.info? e = some i) (hs : Src P i.size tx x 0 [] w) (sCap : Nat) (sLen : Nat) (hl : sLen ≤ sCap) :
  (Builtin.append_ #[t, tx] ty #[.slice base sLen sCap, x]).run P w = .ok (.slice base sLen sCap) w := by
 rcases hs.kind with ⟨e', hk⟩ | hk <;> cases base <;> simp [Builtin.append_, run_underlying ht, run_underlying hk, sizeOf, typeInfo, hi, hs.len, hl, hs.cells, storeCells]
theorem QU {h : Heap} (hh : HRep (Own O σ) w σ h) : HRep (Own O σ) w.drew σ h := by
 have hx : Ext (Own O σ) w (Own O σ) w.drew := ⟨rfl, rfl, rfl, Nat.le_refl _, fun _ _ _ => rfl, fun _ h => .inl h⟩
 have ho : Hold [] w σ w.drew σ := fun i e he _ => ⟨he, fun ad had cs el hcs => ⟨cs, el, hcs, rfl⟩⟩
 refine ⟨hh.len, hh.inj, hh.lt, fun i e b he hb => ?_⟩
 have := qF hx ho (hh.blk i e b he hb) (fun _ _ => rfl)
 rwa [qO] at this
theorem ext_nil (w : World) (σ : List SE) (n : Nat) : Ext (Own O σ) w (Own O (σ ++ [⟨none, n⟩])) w := by
 refine ⟨rfl, rfl, rfl, Nat.le_refl _, fun _ _ _ => rfl, fun b hb => .inl ?_⟩
 rcases hb with hb | ⟨e, he, ad, h1, h2⟩
 ·exact .inl hb
 rcases List.mem_append.1 he with he | he
 ·exact .inr ⟨e, he, ad, h1, h2⟩
 ·simp at he; subst he; simp at h1
theorem Wf {h : Heap} (hg : Good O w σ) (hh : HRep (Own O σ) w σ h) (sz : Nat) (g : Nat → Nat → AV) :
  HRep (Own O (σ ++ [⟨none, 0⟩])) w (σ ++ [⟨none, 0⟩]) (h ++ [.arr 0 sz g]) ∧ Good O w (σ ++ [⟨none, 0⟩]) ∧ Hold [] w σ w (σ ++ [⟨none, 0⟩]) := by
 have hget : ∀ (i : Nat) (e : SE), (σ ++ [(⟨none, 0⟩ : SE)])[i]? = some e → σ[i]? = some e ∨ (i = σ.length ∧ e = ⟨none, 0⟩) := by
  intro i e he
  rw [List.getElem?_append] at he
  split at he
  ·exact .inl he
  ·right
   have : i - σ.length = 0 := by
    have := (List.getElem?_eq_some_iff.1 he).1
    simp at this; omega
   rw [this] at he
   simp at he
   exact ⟨by omega, he.symm⟩
 have hold : Hold [] w σ w (σ ++ [⟨none, 0⟩]) := fun i e he _ => ⟨by rw [List.getElem?_append_left (List.getElem?_eq_some_iff.1 he).1]; exact he, fun ad had cs el hcs => ⟨cs, el, hcs, rfl⟩⟩
 refine ⟨⟨by simp [hh.len], ?_, ?_, ?_⟩, ⟨hg.old, ?_, hg.stat.ext (ext_nil w σ 0)⟩, hold⟩
 ·intro i j e f a b he hf ha hb hne
  rcases hget i e he with he | ⟨_, rfl⟩
  ·rcases hget j f hf with hf | ⟨_, rfl⟩
   ·exact hh.inj i j e f a b he hf ha hb hne
   ·cases hb
  ·cases ha
 ·intro i e a he ha
  rcases hget i e he with he | ⟨_, rfl⟩
  ·exact hh.lt i e a he ha
  ·cases ha
 ·intro i e b he hb
  rcases hget i e he with he | ⟨hi, rfl⟩
  ·rw [List.getElem?_append_left (by rw [← hh.len]; exact (List.getElem?_eq_some_iff.1 he).1)] at hb
   have := qF (ext_nil w σ 0) hold (hh.blk i e b he hb) (fun _ _ => rfl)
   rwa [qO] at this
  ·rw [List.getElem?_append_right (by rw [← hh.len]; omega), ← hh.len, hi] at hb
   simp at hb
   subst hb
   simp [BRep]
 ·intro i e ad he had
  rcases hget i e he with he | ⟨_, rfl⟩
  ·exact hg.dis i e ad he had
  ·cases had
theorem Wa {h : Heap} (hg : Good O w σ) (hh : HRep (Own O σ) w σ h) {t tx ty : TypeId} {s x : AV} {vs vx : Value} {Q : Res → Prop} (hs : Rep (Own O σ) w s σ vs) (hx : Rep (Own O σ) w x σ vx) (hq : (JL P h t tx s x).holds Q) :
  ∃ r v w' σ', (Builtin.append_ #[t, tx] ty #[vs, vx]).run P w = .ok v w' ∧ Q r ∧ Post O w σ h r v w' σ' := by
 simp only [JL] at hq
 split at hq
 ·rename_i e e' hu hu'
  split at hq
  ·rename_i i hi
   split at hq
   ·exact hq.elim
   ·rename_i hne
    have hb0 : i.bytes ≠ 0 := fun h => hne (.inl h)
    obtain ⟨z, hz, hzs⟩ : ∃ z, i.zero = some z ∧ z.cells.size = i.size := by
     cases hz : zeroCells P e with
     | none => exact absurd (.inr (by simp [hz])) hne
     | some zs =>
      by_cases hzl : zs.length = i.size
      ·obtain ⟨z, h1, h2⟩ := vZ (own := Own O σ) (w := w) hz hi
       exact ⟨z, h1, by have := h2.length; simpa [hzl] using this⟩
      ·exact absurd (.inr (by simp [hz, hzl])) hne
    have hroomlen : ∀ m : Nat, m * i.bytes ≤ qX → m ≤ 140737488355328 := fun m hm => by
     have : m * 1 ≤ m * i.bytes := Nat.mul_le_mul_left _ (by omega)
     unfold qX at hm; omega
    split at hq
    ·
     rename_i n2 g2 hsx
     obtain ⟨hroom, hq⟩ := hq
     have hq := hq hroom
     simp only [Rep] at hs
     subst hs
     obtain ⟨news, hsrc, hnews⟩ := u6 hh hu' hx hsx
     by_cases hn : n2 = 0
     ·subst hn
      have : news = [] := by have := hsrc.newsLen; simpa using this
      subst this
      obtain ⟨k1, k2, k3⟩ := Wf hg hh i.size g2
      refine ⟨_, .slice none 0 0, w, σ ++ [⟨none, 0⟩], ku hu hi hsrc 0 0 (Nat.le_refl _), hq, ?_, ext_nil w σ 0, ?_, k3, k2, fun _ _ _ => rfl, fun _ _ _ _ _ _ => rfl⟩
      ·simp only [Rep]
       exact ⟨⟨none, 0⟩, by rw [← hh.len]; simp, by simp, none, 0, rfl, Nat.le_refl _, .inl rfl⟩
      ·simp only [zB, zm, zU, Nat.lt_irrefl, if_false]
       exact k1
     ·have hlen := hroomlen n2 hroom
      have hrun := run_append_grow_src (P := P) w t tx e (ty := ty) i z hu hi hz none 0 0 [] (by simp [Builtin.firstCells]) vx n2 news hsrc (by omega) (by omega) (growslice_fits (by omega) (by simpa [qX] using hroom))
      simp only [Nat.zero_add] at hrun
      have hh' := QU hh
      have hg' : Good O w.drew σ := ⟨hg.old, hg.dis, hg.stat.ext ⟨rfl, rfl, rfl, Nat.le_refl _, fun _ _ _ => rfl, fun _ h => .inl h⟩⟩
      have hnl := hsrc.newsLen
      refine ⟨_, _, _, σ ++ [⟨some ⟨w.drew.heap.size, 0, none⟩, n2⟩], hrun, hq, ?_, ?_, ?_, qp hh' _ _, jQ hh' hg' _ _, fun b _ hb => Below.heap_alloc w.drew _ b hb, fun i e ad he had _ => Below.heap_alloc w.drew _ _ (hh.lt i e ad he had)⟩
      ·simp only [Rep]
       refine ⟨⟨some ⟨w.drew.heap.size, 0, none⟩, n2⟩, by rw [← hh.len]; simp, by simp, _, _, rfl, grownCap_ge w n2 0 e, .inr ⟨_, rfl, by simp, _, e, heap_alloc_new w.drew _, ?_⟩⟩
       simp only [Nat.zero_add]
       simp only [Array.size_append, List.size_toArray, List.nil_append, hnl, size_zeroCells, hzs]
       have hge := grownCap_ge w n2 0 e
       rw [← Nat.add_mul]
       exact Nat.mul_le_mul_right _ (by omega)
      ·have := qb hh' (.cells (([] ++ news).toArray ++ Builtin.zeroCells z.cells (grownCap w n2 0 e - n2)) e) n2
       exact ⟨this.os, this.tape, this.output, this.size, this.keep, this.grow⟩
      ·simp only [zB, zm, zU, Nat.lt_irrefl, if_false]
       refine jE hh' ?_
       simp only [BRep]
       refine ⟨by trivial, .inr ⟨_, _, e, rfl, heap_alloc_new w.drew _, by simp [hnl], fun j o hj ho => ?_⟩⟩
       obtain ⟨c, h1, h2, h3⟩ := hnews j o hj ho
       refine ⟨c, ?_, h2, zi (qb hh' _ _) _ _ (zi (w1 := w) (w2 := w.drew) (o1 := Own O σ) (o2 := Own O σ) ⟨rfl, rfl, rfl, Nat.le_refl _, fun _ _ _ => rfl, fun _ h => .inl h⟩ _ _ h3)⟩
       have hlt := (List.getElem?_eq_some_iff.1 h1).1
       simp only [Nat.zero_add, List.nil_append]
       rw [Array.getElem?_append_left (by simpa using hlt)]
       simpa using h1
    ·
     rename_i n2 g2 b sz off n hsx
     split at hq
     ·rename_i n' sz' g hb
      split at hq
      ·rename_i hsz
       obtain ⟨rfl, hsz2⟩ := hsz
       subst hsz2
       obtain ⟨hsd, hq⟩ := hq
       have hQ := hq hsd
       clear hq
       obtain ⟨rfl, hnn, hroom⟩ := hsd
       have hq := hQ
       obtain ⟨news, hsrc, hnews⟩ := u6 hh hu' hx hsx
       have hs0 := hs
       simp only [Rep] at hs
       obtain ⟨e0, he, hl, a, cap, rfl, hcap, hr⟩ := hs
       obtain ⟨hen, hblk⟩ := hh.blk b e0 _ he hb
       have hbl : b < h.length := by rw [← hh.len]; exact (List.getElem?_eq_some_iff.1 he).1
       have hnl := hsrc.newsLen
       by_cases hroom2 : n + n2 ≤ cap
       ·by_cases hn2 : n2 = 0
        ·
         subst hn2
         have : news = [] := by simpa using hnl
         subst this
         have hown' : ∀ k, Own O (σ.set b ⟨e0.ad, n⟩) k → Own O σ k := by
          rintro k (hk | ⟨x, hx, ad, h1, h2⟩)
          ·exact .inl hk
          ·rcases List.mem_or_eq_of_mem_set hx with hx | rfl
           ·exact .inr ⟨x, hx, ad, h1, h2⟩
           ·exact .inr ⟨e0, List.mem_of_getElem? he, ad, h1, h2⟩
         have hold : Hold [b] w σ w (σ.set b ⟨e0.ad, n⟩) := by
          intro j f hf hj
          have hjb : b ≠ j := fun h => hj (by simp [h])
          exact ⟨by rw [List.getElem?_set_ne hjb]; exact hf, fun ad _ cs el hcs => ⟨cs, el, hcs, rfl⟩⟩
         have hext : Ext (Own O σ) w (Own O (σ.set b ⟨e0.ad, n⟩)) w := ⟨rfl, rfl, rfl, Nat.le_refl _, fun _ _ _ => rfl, fun k hk => .inl (hown' k hk)⟩
         refine ⟨_, _, w, σ.set b ⟨e0.ad, n⟩, ku hu hi hsrc cap n hcap, hq, ?_, hext, ?_, hold, ?_, fun _ _ _ => rfl, fun _ _ _ _ _ _ => rfl⟩
         ·simp only [Rep]
          exact ⟨⟨e0.ad, n⟩, by rw [List.getElem?_set_self (by rw [hh.len]; exact hbl)], by simp, a, cap, rfl, hcap, hr⟩
         ·simp only [zm]
          refine ZT hh he hext hold (fun _ _ _ _ _ _ => rfl) (fun j f a a' hj hf ha ha' => hh.inj j b f e0 a a' hf he ha ha' hj) (fun ad had => hh.lt b e0 ad he had) ?_
          simp only [BRep]
          refine ⟨rfl, ?_⟩
          rcases hblk with hz0 | ⟨ad, cs, el, had, hcs, hsz, hrb⟩
          ·exact .inl (by omega)
          ·have : (n + 0) * i.size ≤ n' * i.size := Nat.mul_le_mul_right _ (by omega)
           refine .inr ⟨ad, cs, el, had, hcs, by omega, fun j o hj ho => ?_⟩
           obtain ⟨c, h1, h2, h3⟩ := hrb j o (by omega) ho
           exact ⟨c, h1, h2, by simp only [appG, if_pos (show j < n by omega)]; exact zi hext _ _ h3⟩
         ·refine ⟨hg.old, fun j f ad hf ha => ?_, hg.stat.ext hext⟩
          by_cases hjb : b = j
          ·subst hjb
           rw [List.getElem?_set_self (by rw [hh.len]; exact hbl)] at hf
           cases hf
           exact hg.dis b e0 ad he ha
          ·rw [List.getElem?_set_ne hjb] at hf
           exact hg.dis j f ad hf ha
        ·
         rcases hr with hr | ⟨ad, had, rfl, cs, el, hcs, hsz⟩
         ·omega
         have hle : (n + n2) * i.size ≤ cap * i.size := Nat.mul_le_mul_right _ hroom2
         simp only [Nat.zero_add, Nat.zero_mul, Nat.add_zero] at hsz
         rw [Nat.add_mul] at hle
         have hrun := Q6 (P := P) (w := w) (ty := ty) (b := ad.block) (o := ad.off + 0 * i.size) (sLen := n) (sCap := cap) hu hi hsrc hroom2 hcs (by rw [hnl]; omega)
         simp only [Nat.zero_mul, Nat.add_zero] at hrun
         generalize hnew : (cs.toList.take (ad.off + n * i.size) ++ news ++ cs.toList.drop (ad.off + n * i.size + news.length)).toArray = cs' at hrun
         have hcs'sz : cs'.size = cs.size := by rw [← hnew]; simp [hnl]; omega
         have hrow : (w.setRow ad.block cs').heap[ad.block]? = some (.cells cs' el (0, 0)) := setRow_heap w _ _ _ _ _ hcs
         have ht := kB w ad.block cs'
         have hszs : ∀ c el2, w.heap[ad.block]? = some (.cells c el2 (0, 0)) → ∃ c' el', (w.setRow ad.block cs').heap[ad.block]? = some (.cells c' el' (0, 0)) ∧ c'.size = c.size := by
          intro c el2 h
          rw [hcs] at h; cases h
          exact ⟨_, _, hrow, hcs'sz⟩
         have hown : Own O σ ad.block := .inr ⟨e0, List.mem_of_getElem? he, ad, had, rfl⟩
         have hown' : ∀ k, Own O (σ.set b ⟨some ad, n + n2⟩) k → Own O σ k := by
          rintro k (hk | ⟨f, hf, a, ha, rfl⟩)
          ·exact .inl hk
          rcases List.mem_or_eq_of_mem_set hf with hf | rfl
          ·exact .inr ⟨f, hf, a, ha, rfl⟩
          ·cases ha; exact hown
         have hx0 := q8 ht hown
         have hext : Ext (Own O σ) w (Own O (σ.set b ⟨some ad, n + n2⟩)) (w.setRow ad.block cs') := ⟨hx0.os, hx0.tape, hx0.output, hx0.size, hx0.keep, fun k hk => hx0.grow k (hown' k hk)⟩
         have hold : Hold [b] w σ (w.setRow ad.block cs') (σ.set b ⟨some ad, n + n2⟩) := by
          intro j f hf hj
          have hjb : b ≠ j := fun h => hj (by simp [h])
          obtain ⟨h1, h2⟩ := wD ht hszs j f hf (by simp)
          exact ⟨by rw [List.getElem?_set_ne hjb]; exact hf, h2⟩
         refine ⟨_, _, w.setRow ad.block cs', σ.set b ⟨some ad, n + n2⟩, by simpa using hrun, hq, ?_, hext, ?_, hold, ?_, fun k hk _ => ht.other k (fun h => hg.dis b e0 ad he had (h ▸ hk)), fun j f a hf ha hj => ht.other _ (hh.inj j b f e0 a ad hf he ha had (by simpa using hj))⟩
         ·simp only [Rep]
          exact ⟨⟨some ad, n + n2⟩, by rw [List.getElem?_set_self (by rw [hh.len]; exact hbl)], by simp, _, cap, rfl, hroom2, .inr ⟨ad, rfl, by simp, cs', el, hrow, by simp; omega⟩⟩
         ·simp only [zm]
          refine ZT hh he hext hold (fun j f a hj hf ha => ht.other _ (hh.inj j b f e0 a ad hf he ha had hj)) (fun j f a a' hj hf ha ha' => by cases ha'; exact hh.inj j b f e0 a ad hf he ha had hj) (fun a ha => by cases ha; rw [ht.size]; exact hh.lt b e0 ad he had) ?_
          simp only [BRep]
          refine ⟨by trivial, .inr ⟨ad, cs', el, rfl, hrow, by rw [hcs'sz, Nat.add_mul]; omega, fun j o hj ho => ?_⟩⟩
          have hpos : ∀ p : Nat, cs'[p]? = if ad.off + n * i.size ≤ p ∧ p < ad.off + n * i.size + news.length then news[p - (ad.off + n * i.size)]? else cs[p]? := by
           intro p
           rw [← hnew]
           simp only [List.getElem?_toArray, List.getElem?_append, List.length_append, List.length_take, Array.length_toList]
           have hmin : min (ad.off + n * i.size) cs.size = ad.off + n * i.size := by omega
           rw [hmin]
           by_cases c1 : p < ad.off + n * i.size
           ·rw [if_pos (by omega), if_pos c1, if_neg (by omega), List.getElem?_take, if_pos c1, Array.getElem?_toList]
           ·by_cases c2 : p < ad.off + n * i.size + news.length
            ·rw [if_pos c2, if_neg c1, if_pos ⟨by omega, c2⟩]
            ·rw [if_neg c2, if_neg (by omega), List.getElem?_drop, Array.getElem?_toList]
             congr 1; omega
          by_cases hjn : j < n
          ·have hj1 : j * i.size + o < n * i.size := by
            have : (j + 1) * i.size ≤ n * i.size := Nat.mul_le_mul_right _ (by omega)
            rw [Nat.succ_mul] at this; omega
           rcases hblk with hz0 | ⟨ad2, cs2, el2, had2, hcs2, hsz2, hrb⟩
           ·omega
           rw [had] at had2; cases had2
           rw [hcs] at hcs2; cases hcs2
           obtain ⟨c, h1, h2, h3⟩ := hrb j o (by omega) ho
           refine ⟨c, by rw [hpos, if_neg (by omega)]; exact h1, h2, ?_⟩
           simp only [appG, if_pos hjn]
           exact zi hext _ _ h3
          ·obtain ⟨c, h1, h2, h3⟩ := hnews (j - n) o (by omega) ho
           have hlt := (List.getElem?_eq_some_iff.1 h1).1
           have e1 : j * i.size = n * i.size + (j - n) * i.size := by rw [← Nat.add_mul]; congr 1; omega
           refine ⟨c, ?_, h2, ?_⟩
           ·rw [hpos, if_pos ⟨by omega, by omega⟩]
            rw [← h1]; congr 1; omega
           ·simp only [appG, if_neg hjn]
            exact zi hext _ _ h3
         ·refine ⟨fun k hk => by rw [ht.size]; exact hg.old k hk, fun j f a hf ha => ?_, hg.stat.ext hext⟩
          rcases List.mem_or_eq_of_mem_set (List.mem_of_getElem? hf) with hf' | rfl
          ·obtain ⟨j', hj'⟩ := List.mem_iff_getElem?.1 hf'
           exact hg.dis j' f a hj' ha
          ·cases ha; exact hg.dis b e0 ad he had
       ·
        obtain ⟨olds, hsold, hold0⟩ := u6 (tx := t) (sz := i.size) (n := n) (g := zg g 0) hh hu hs0 (by simp [Wl, qw, hb])
        have hol := hsold.newsLen
        have hlen := hroomlen _ hroom
        have hcl : (Builtin.firstCells i.size n (.slice a n cap)).run P w.drew = .ok olds.toArray w.drew := hsold.cellsD
        have hrun := run_append_grow_src (P := P) w t tx e (ty := ty) i z hu hi hz a n cap olds hcl vx n2 news hsrc (by omega) (by omega) (growslice_fits (by omega) (by simpa [qX] using hroom))
        have hh' := QU hh
        have hg' : Good O w.drew σ := ⟨hg.old, hg.dis, hg.stat.ext ⟨rfl, rfl, rfl, Nat.le_refl _, fun _ _ _ => rfl, fun _ h => .inl h⟩⟩
        generalize hW : (Obj.cells ((olds ++ news).toArray ++ Builtin.zeroCells z.cells (grownCap w (n + n2) cap e - (n + n2))) e) = ob at hrun
        have hx0 := qb hh' ob (n + n2)
        have hown' : ∀ k, Own O (σ.set b ⟨some ⟨w.heap.size, 0, none⟩, n + n2⟩) k → Own O σ k ∨ w.heap.size ≤ k := by
         rintro k (hk | ⟨f, hf, a, ha, rfl⟩)
         ·exact .inl (.inl hk)
         rcases List.mem_or_eq_of_mem_set hf with hf | rfl
         ·exact .inl (.inr ⟨f, hf, a, ha, rfl⟩)
         ·cases ha; exact .inr (Nat.le_refl _)
        have hext : Ext (Own O σ) w (Own O (σ.set b ⟨some ⟨w.heap.size, 0, none⟩, n + n2⟩)) (w.drew.alloc ob) := ⟨hx0.os, hx0.tape, hx0.output, hx0.size, hx0.keep, hown'⟩
        have hold : Hold [b] w σ (w.drew.alloc ob) (σ.set b ⟨some ⟨w.heap.size, 0, none⟩, n + n2⟩) := by
         intro j f hf hj
         have hjb : b ≠ j := fun h => hj (by simp [h])
         obtain ⟨h1, h2⟩ := qp hh' ob ⟨none, 0⟩ j f hf (by simp)
         exact ⟨by rw [List.getElem?_set_ne hjb]; exact hf, h2⟩
        have hlast : (w.drew.alloc ob).heap[w.heap.size]? = some ob := heap_alloc_new w.drew ob
        have hge := grownCap_ge w (n + n2) cap e
        refine ⟨_, _, w.drew.alloc ob, σ.set b ⟨some ⟨w.heap.size, 0, none⟩, n + n2⟩, hrun, hq, ?_, hext, ?_, hold, ?_, fun k _ hk => Below.heap_alloc w.drew _ k hk, fun i e ad he had _ => Below.heap_alloc w.drew _ _ (hh.lt i e ad he had)⟩
        ·simp only [Rep]
         refine ⟨⟨some ⟨w.heap.size, 0, none⟩, n + n2⟩, by rw [List.getElem?_set_self (by rw [hh.len]; exact hbl)], by simp, _, _, rfl, hge, .inr ⟨⟨w.heap.size, 0, none⟩, rfl, by simp, _, e, by rw [hlast, ← hW], ?_⟩⟩
         simp only [Nat.zero_add, Array.size_append, List.size_toArray, List.length_append, hol, hnl, size_zeroCells, hzs]
         rw [← Nat.add_mul, ← Nat.add_mul]
         exact Nat.mul_le_mul_right _ (by omega)
        ·simp only [zm]
         refine ZT hh he hext hold (fun j f a hj hf ha => Below.heap_alloc w.drew ob _ (hh.lt j f a hf ha)) (fun j f a a' hj hf ha ha' => by cases ha'; exact Nat.ne_of_lt (hh.lt j f a hf ha)) (fun a ha => by cases ha; simp) ?_
         simp only [BRep]
         refine ⟨by trivial, .inr ⟨⟨w.heap.size, 0, none⟩, _, e, rfl, by rw [hlast, ← hW], by simp [hol, hnl, ← Nat.add_mul, Nat.add_mul], fun j o hj ho => ?_⟩⟩
         have hd : Ext (Own O σ) w (Own O σ) w.drew := ⟨rfl, rfl, rfl, Nat.le_refl _, fun _ _ _ => rfl, fun _ h => .inl h⟩
         by_cases hjn : j < n
         ·obtain ⟨c, h1, h2, h3⟩ := hold0 j o hjn ho
          have hlt := (List.getElem?_eq_some_iff.1 h1).1
          refine ⟨c, ?_, h2, ?_⟩
          ·simp only [Nat.zero_add]
           rw [Array.getElem?_append_left (by simp; omega)]
           simp only [List.getElem?_toArray]
           rw [List.getElem?_append_left hlt]; exact h1
          ·simp only [appG, if_pos hjn]
           simp only [zg, Nat.zero_add] at h3
           exact zi hext _ _ h3
         ·obtain ⟨c, h1, h2, h3⟩ := hnews (j - n) o (by omega) ho
          have hlt := (List.getElem?_eq_some_iff.1 h1).1
          have e1 : j * i.size = n * i.size + (j - n) * i.size := by rw [← Nat.add_mul]; congr 1; omega
          refine ⟨c, ?_, h2, ?_⟩
          ·simp only [Nat.zero_add]
           rw [Array.getElem?_append_left (by simp; omega)]
           simp only [List.getElem?_toArray]
           rw [List.getElem?_append_right (by omega), ← h1]; congr 1; omega
          ·simp only [appG, if_neg hjn]
           exact zi hext _ _ h3
        ·refine ⟨fun k hk => by have := hg.old k hk; simp; omega, fun j f a hf ha => ?_, hg.stat.ext hext⟩
         rcases List.mem_or_eq_of_mem_set (List.mem_of_getElem? hf) with hf' | rfl
         ·obtain ⟨j', hj'⟩ := List.mem_iff_getElem?.1 hf'
          exact hg.dis j' f a hj' ha
         ·cases ha
          intro hO
          have := hg.old _ hO
          simp at this
      ·exact hq.elim
     ·exact hq.elim
    ·exact hq.elim
  ·exact hq.elim
 ·exact hq.elim
end
end Go.Sx
end

/- Calls by contract; all operations in one. -/
section
namespace Go.Sx
variable [Stat]
open Go.RowKit (Below)
def yo (P : Program) (g : Nat) (vals : Array Value) (w : World) (R : Value → World → Prop) : Prop :=
 ((callFunc g vals).run P w = .ok (.enter g vals) w ∧ Calls P g vals w fun e w' => ∃ v, e = .returned v ∧ R v w') ∨
 ∃ v w', (callFunc g vals).run P w = .ok (.value v) w' ∧ R v w'
def Mine (σ : List SE) (b : Nat) : Prop := ∃ e ∈ σ, ∃ ad, e.ad = some ad ∧ ad.block = b
def qq (P : Program) (g : Nat) (c : Ctr) (args : List AV) (hc : Heap) (Q : AV × Heap → Prop) : Prop :=
 ∀ (O : Nat → Prop) (w : World) (σ : List SE) (vals : List Value), Good O w σ → HRep (Own O σ) w σ hc → RepL (Own O σ) w args σ vals →
  yo P g vals.toArray w fun v w' => ∃ r hs σ', Q (r, hs) ∧ Rep (fun b => Own O σ' b ∨ (c.fresh = true ∧ b < w.heap.size)) w' r σ' v ∧
   HRep (fun b => Own O σ' b ∨ (c.fresh = true ∧ b < w.heap.size)) w' σ' hs ∧ Good O w' σ' ∧ hc.length ≤ hs.length ∧ Hold (if c.wv = true then (List.range hc.length).drop c.pins else []) w σ w' σ' ∧ Ext (Mine σ) w (Mine σ') w'
def ze (P : Program) (g : Nat) (c : Ctr) : Prop := ∀ (args : List AV) (hc : Heap) (Q : AV × Heap → Prop), (c.spec args hc).holds Q → (c.fresh = true → hc = []) → qq P g c args hc Q
def mrg {α : Type} : List α → List Nat → List α → List α
 | h, [], hs => h ++ hs
 | h, i :: L, b :: hs => mrg (h.set i b) L hs
 | h, _ :: _, [] => h
theorem ke : ∀ {L : List Nat} {i j : Nat}, zq L i = some j → L[j]? = some i
 | [], i, j, h => by simp [zq] at h
 | x :: L, i, j, h => by
  simp only [zq] at h
  split at h
  ·rename_i hx; cases h; simp [hx]
  ·cases hp : zq L i with
   | none => simp [hp] at h
   | some k =>
    simp only [hp, Option.map_some, Option.some.injEq] at h
    subst h
    simpa using ke hp
theorem qS : ∀ {L : List Nat} {i : Nat}, zq L i = none ↔ i ∉ L
 | [], i => by simp [zq]
 | x :: L, i => by
  simp only [zq, List.mem_cons, not_or]
  split
  ·rename_i hx; simp [hx]
  ·rename_i hx
   rw [Option.map_eq_none_iff, qS]
   constructor
   ·exact fun h => ⟨fun e => hx e.symm, h⟩
   ·exact fun h => h.2
theorem wM : ∀ {L : List Nat} {i j : Nat}, jP L = true → L[j]? = some i → zq L i = some j
 | [], i, j, _, h => by simp at h
 | x :: L, i, 0, _, h => by simp at h; simp [zq, h]
 | x :: L, i, j + 1, hn, h => by
  simp only [jP, Bool.and_eq_true, Bool.not_eq_true', List.contains_eq_mem, decide_eq_false_iff_not] at hn
  simp only [List.getElem?_cons_succ] at h
  have hne : x ≠ i := fun e => hn.1 (e ▸ List.mem_of_getElem? h)
  simp [zq, hne, wM hn.2 h]
theorem uU {α : Type} : ∀ {L : List Nat} {h hs : List α}, (∀ i ∈ L, i < h.length) → jP L = true → L.length ≤ hs.length → ∀ k, (mrg h L hs)[k]? = match zq L k with
  | some j => hs[j]?
  | none => if k < h.length then h[k]? else hs[L.length + (k - h.length)]?
 | [], h, hs, _, _, _, k => by
  simp only [mrg, zq, List.length_nil, Nat.zero_add, List.getElem?_append]
 | i :: L, h, [], _, _, hl, k => by simp at hl
 | i :: L, h, b :: hs, hL, hn, hl, k => by
  simp only [jP, Bool.and_eq_true, Bool.not_eq_true', List.contains_eq_mem, decide_eq_false_iff_not] at hn
  simp only [mrg]
  rw [uU (fun j hj => by simpa using hL j (by simp [hj])) hn.2 (by simpa using hl)]
  simp only [zq]
  by_cases hik : i = k
  ·subst hik
   rw [qS.2 hn.1]
   have := hL i (by simp)
   simp [this]
  ·rw [if_neg hik]
   cases hp : zq L k with
   | some j => simp
   | none =>
    simp only [Option.map_none, List.length_set, List.length_cons]
    rw [List.getElem?_set_ne hik]
    split
    ·rfl
    ·rw [show L.length + 1 + (k - h.length) = (L.length + (k - h.length)) + 1 by omega, List.getElem?_cons_succ]
theorem xE {α : Type} : ∀ {L : List Nat} {h hs : List α}, L.length ≤ hs.length → (mrg h L hs).length = h.length + (hs.length - L.length)
 | [], h, hs, _ => by simp [mrg]
 | i :: L, h, [], hl => by simp at hl
 | i :: L, h, b :: hs, hl => by
  simp only [mrg]
  rw [xE (by simpa using hl)]
  simp
theorem JP : ∀ {L : List Nat} {h hs : Heap}, (∀ i ∈ L, i < h.length) → L.length ≤ hs.length → zm h (wu L h.length hs) = mrg h L hs
 | [], h, [], _, _ => by simp [wu, zm, mrg]
 | [], h, b :: hs, hL, _ => by
  simp only [wu, zm, zU, Nat.lt_irrefl, if_false, mrg]
  have := JP (L := []) (h := h ++ [b]) (hs := hs) (by simp) (by simp)
  simp only [List.length_append, List.length_cons, List.length_nil, Nat.zero_add, mrg] at this
  rw [this]; simp
 | i :: L, h, [], _, hl => by simp at hl
 | i :: L, h, b :: hs, hL, hl => by
  simp only [wu, zm, zU, if_pos (hL i (by simp)), mrg]
  have := JP (L := L) (h := h.set i b) (hs := hs) (fun j hj => by simpa using hL j (by simp [hj])) (by simpa using hl)
  simpa using this
theorem Qd : ∀ {L : List Nat} {d : Nat} {hs : List Blk}, L.length ≤ hs.length → ∀ i ∈ L, i ∈ (wu L d hs).map (·.1)
 | [], d, hs, _, i, h => by cases h
 | x :: L, d, [], hl, i, h => by simp at hl
 | x :: L, d, b :: hs, hl, i, h => by
  simp only [wu, List.map_cons, List.mem_cons]
  rcases List.mem_cons.1 h with rfl | h
  ·exact .inl rfl
  ·exact .inr (Qd (by simpa using hl) i h)
section
variable {O : Nat → Prop} {w : World} {σ : List SE} {P : Program}
theorem yN {h : Heap} (hg : Good O w σ) (hh : HRep (Own O σ) w σ h) {a a' : AV} {v : Value} {k K : List Nat} (ha : Rep (Own O σ) w a σ v) (hf : frz h a = some (a', k)) (hk : ∀ i ∈ k, i ∈ K) : Rep (Own O (frzS K σ)) w a' [] v := by
 cases a with
 | agg cs =>
  simp only [frz] at hf
  split at hf
  ·rename_i cs' k' hf'
   simp only [Option.some.injEq, Prod.mk.injEq] at hf
   obtain ⟨rfl, rfl⟩ := hf
   simp only [Rep] at ha ⊢
   obtain ⟨vs, hv, hr⟩ := ha
   exact ⟨vs, hv, (wO hg hh hr hf' hk).1⟩
  ·cases hf
 | tup cs =>
  simp only [frz] at hf
  split at hf
  ·rename_i cs' k' hf'
   simp only [Option.some.injEq, Prod.mk.injEq] at hf
   obtain ⟨rfl, rfl⟩ := hf
   simp only [Rep] at ha ⊢
   obtain ⟨vs, hv, hr⟩ := ha
   exact ⟨vs, hv, (wO hg hh hr hf' hk).1⟩
  ·cases hf
 | _ => exact (xL hg hh ha (by simpa only [frz] using hf) hk).1
theorem xw {h : Heap} (hg : Good O w σ) (hh : HRep (Own O σ) w σ h) {K : List Nat} : ∀ {as : List AV} {l : List (AV × List Nat)} {vs : List Value}, RepL (Own O σ) w as σ vs → as.mapM (fun a => frz h a) = some l → (∀ p ∈ l, ∀ i ∈ p.2, i ∈ K) →
  RepL (Own O (frzS K σ)) w (l.map (·.1)) [] vs
 | [], l, vs, hr, hl, hk => by
  simp at hl; subst hl
  simpa [RepL] using hr
 | a :: as, l, vs, hr, hl, hk => by
  simp only [List.mapM_cons, Option.bind_eq_bind, Option.bind_eq_some_iff, Option.pure_def, Option.some.injEq] at hl
  obtain ⟨p, hp, q, hq, rfl⟩ := hl
  simp only [RepL] at hr ⊢
  obtain ⟨v, r, rfl, h1, h2⟩ := hr
  exact ⟨v, r, rfl, yN hg hh h1 (by simpa using hp) (fun i hi => hk p (by simp) i hi), xw hg hh h2 hq (fun x hx => hk x (by simp [hx]))⟩
theorem jX {own own' : Nat → Prop} {w : World} {a : AV} {v : Value} {σ : List SE} (h : ∀ b, own' b → own b) (hr : Rep own w a σ v) : Rep own' w a σ v :=
 zS (K := []) (w2 := w) ⟨rfl, rfl, rfl, Nat.le_refl _, fun _ _ _ => rfl, fun b hb => .inl (h b hb)⟩ (Hold.refl [] w σ) a v (qT a) hr
theorem jK {own : Nat → Prop} {w : World} {σ1 σ2 : List SE} {f : Nat → Option Nat} (hf : ∀ i j, f i = some j → σ2[j]? = σ1[i]?) {a : AV} {v : Value} (h : Rep own w a σ1 v) : Rep own w (ren0 f a) σ2 v := by
 cases a with
 | osl i sz off n =>
  simp only [ren0]
  split
  ·rename_i j hj
   simp only [Rep] at h ⊢
   rw [hf i j hj]; exact h
  ·simp [Rep]
 | ptr i off =>
  simp only [ren0]
  split
  ·rename_i j hj
   simp only [Rep] at h ⊢
   rw [hf i j hj]; exact h
  ·simp [Rep]
 | eptr i sz idx off =>
  simp only [ren0]
  split
  ·rename_i j hj
   simp only [Rep] at h ⊢
   rw [hf i j hj]; exact h
  ·simp [Rep]
 | omap i =>
  simp only [ren0]
  split
  ·rename_i j hj
   simp only [Rep] at h ⊢
   rw [hf i j hj]; exact h
  ·simp [Rep]
 | fn g a b =>
  simp only [ren0]
  split
  ·simp only [Rep, RepL] at h ⊢; exact h
  ·simp [Rep]
 | agg _ => simp [ren0, Rep]
 | tup _ => simp [ren0, Rep]
 | opt _ _ _ => simp [ren0, Rep]
 | undef => simp [ren0, Rep]
 | sl n sz g => exact Rep.any (a := .sl n sz g) (by simpa only [Rep] using h) _
 | iptr n g => exact Rep.any (a := .iptr n g) (by simpa only [Rep] using h) _
 | _ => simp only [ren0, Rep] at h ⊢; exact h
theorem RepL.map2 {own : Nat → Prop} {w : World} {σ1 σ2 : List SE} {f : AV → AV} (hf : ∀ a v, Rep own w a σ1 v → Rep own w (f a) σ2 v) {l : List AV} {vs : List Value} (h : RepL own w l σ1 vs) : RepL own w (l.map f) σ2 vs := by
 refine zw.2 ⟨by simp [h.length], fun i x u hx hu => ?_⟩
 simp only [List.getElem?_map] at hx
 cases hl : l[i]? with
 | none => simp [hl] at hx
 | some y =>
  simp only [hl, Option.map_some, Option.some.injEq] at hx
  subst hx
  exact hf y u ((zw.1 h).2 i y u hl hu)
theorem wI {own : Nat → Prop} {w : World} {σ1 σ2 : List SE} {f : Nat → Option Nat} (hf : ∀ i j, f i = some j → σ2[j]? = σ1[i]?) {a : AV} {v : Value} (h : Rep own w a σ1 v) : Rep own w (ren1 f a) σ2 v := by
 cases a with
 | agg cs =>
  simp only [ren1, Rep] at h ⊢
  obtain ⟨vs, hv, hr⟩ := h
  exact ⟨vs, hv, hr.map2 fun a v => jK hf⟩
 | fn g a b =>
  simp only [ren1, Rep] at h ⊢
  obtain ⟨va, vb, hv, h1, h2⟩ := h
  exact ⟨va, vb, hv, h1.map2 fun a v => jK hf, h2.map2 fun a v => jK hf⟩
 | _ => simp only [ren1]; exact jK hf h
theorem ZF {own : Nat → Prop} {w : World} {σ1 σ2 : List SE} {f : Nat → Option Nat} (hf : ∀ i j, f i = some j → σ2[j]? = σ1[i]?) {a : AV} {v : Value} (h : Rep own w a σ1 v) : Rep own w (ren2 f a) σ2 v := by
 cases a with
 | tup cs =>
  simp only [ren2, Rep] at h ⊢
  obtain ⟨vs, hv, hr⟩ := h
  exact ⟨vs, hv, hr.map2 fun a v => wI hf⟩
 | fn g a b =>
  simp only [ren2, Rep] at h ⊢
  obtain ⟨va, vb, hv, h1, h2⟩ := h
  exact ⟨va, vb, hv, h1.map2 fun a v => wI hf, h2.map2 fun a v => wI hf⟩
 | _ => simp only [ren2]; exact wI hf h
theorem xS {own : Nat → Prop} {w : World} {σ1 σ2 : List SE} {f : Nat → Option Nat} (hf : ∀ i j, f i = some j → σ2[j]? = σ1[i]?) {e : SE} {b : Blk} (h : BRep own w σ1 e b) : BRep own w σ2 e (renB f b) := by
 cases b with
 | dead => trivial
 | box cs =>
  simp only [renB, BRep] at h ⊢
  obtain ⟨ad, vs, el, h1, h2, h3, h4⟩ := h
  exact ⟨ad, vs, el, h1, h2, h3, h4.map2 fun a v => wI hf⟩
 | arr n sz g => exact h
 | arrI _ n _ => exact h
 | arrS n _ => exact h
 | map ag sh has get pe => simp only [renB, BRep] at h ⊢; exact h
theorem ZQ {own own' : Nat → Prop} {w : World} {σ : List SE} {e : SE} {b : Blk} (ho : ∀ k, own' k → own k) (h : BRep own w σ e b) : BRep own' w σ e b := by
 cases b with
 | dead => trivial
 | box cs =>
  simp only [BRep] at h ⊢
  obtain ⟨ad, vs, el, h1, h2, h3, h4⟩ := h
  refine ⟨ad, vs, el, h1, h2, h3, zw.2 ⟨h4.length, fun i x u hx hu => jX ho ((zw.1 h4).2 i x u hx hu)⟩⟩
 | arr n sz g =>
  simp only [BRep] at h ⊢
  obtain ⟨h1, h2 | ⟨ad, cs, el, h3, h4, h5, h6⟩⟩ := h
  ·exact ⟨h1, .inl h2⟩
  ·refine ⟨h1, .inr ⟨ad, cs, el, h3, h4, h5, fun j o hj ho' => ?_⟩⟩
   obtain ⟨c, h7, h8, h9⟩ := h6 j o hj ho'
   exact ⟨c, h7, h8, jX ho h9⟩
 | arrI _ n _ =>
  simp only [BRep] at h ⊢
  obtain ⟨h1, h2 | ⟨ad, cs, el, h3, h4, h5, h6⟩⟩ := h
  ·exact ⟨h1, .inl h2⟩
  ·refine ⟨h1, .inr ⟨ad, cs, el, h3, h4, h5, fun j o hj ho' => ?_⟩⟩
   obtain ⟨c, h7, h8, h9⟩ := h6 j o hj ho'
   exact ⟨c, h7, h8, jX ho h9⟩
 | arrS n _ =>
  simp only [BRep] at h ⊢
  obtain ⟨h1, h2 | ⟨ad, cs, el, h3, h4, h5, h6⟩⟩ := h
  ·exact ⟨h1, .inl h2⟩
  ·refine ⟨h1, .inr ⟨ad, cs, el, h3, h4, h5, fun j o hj ho' => ?_⟩⟩
   obtain ⟨c, h7, h8, h9⟩ := h6 j o hj ho'
   exact ⟨c, h7, h8, jX ho h9⟩
 | map ag sh has get pe =>
  simp only [BRep] at h ⊢
  obtain ⟨ad, es, clock, l, h1, h2, h3, h4, h5, h6⟩ := h
  exact ⟨ad, es, clock, l, h1, h2, h3, h4, h5, h6.ext ⟨rfl, rfl, rfl, Nat.le_refl _, fun _ _ _ => rfl, fun b hb => .inl (ho b hb)⟩⟩
theorem zz {b : Nat} : Mine σ b ↔ ∃ (i : Nat) (e : SE) (ad : Addr), σ[i]? = some e ∧ e.ad = some ad ∧ ad.block = b := by
 constructor
 ·rintro ⟨e, he, ad, h1, h2⟩
  obtain ⟨i, hi⟩ := List.mem_iff_getElem?.1 he
  exact ⟨i, e, ad, hi, h1, h2⟩
 ·rintro ⟨i, e, ad, hi, h1, h2⟩
  exact ⟨e, List.mem_of_getElem? hi, ad, h1, h2⟩
theorem Qc {h : Heap} (hg : Good O w σ) (hh : HRep (Own O σ) w σ h) {L : List Nat} (hL : ∀ i ∈ L, i < h.length) (hn : jP L = true) {σc σ' : List SE} (hσc : ∀ j : Nat, σc[j]? = (L[j]?).bind fun i => σ[i]?)
  {own' : Nat → Prop} {w' : World} {r : AV} {v : Value} {hs : Heap} {Kc K : List Nat} (hown : ∀ b, Own O (mrg σ L σ') b → own' b) (hR : Rep own' w' r σ' v) (hH : HRep own' w' σ' hs) (hlen : L.length ≤ hs.length)
  (hE : Ext (Mine σc) w (Mine σ') w') (hG : Good O w' σ') (hhold : Hold Kc w σc w' σ') (hK : (∀ i ∈ K, i ∈ L) ∧ ∀ (j i : Nat), L[j]? = some i → i ∉ K → j ∉ Kc) :
  Post O w σ h ⟨ren2 (wq L h.length) r, wu L h.length (hs.map (renB (wq L h.length))), K⟩ v w' (mrg σ L σ') := by
 have hl' : L.length ≤ σ'.length := by rw [hH.len]; exact hlen
 have hLσ : ∀ i ∈ L, i < σ.length := by rw [hh.len]; exact hL
 have hget := uU (h := σ) (hs := σ') hLσ hn hl'
 have hback : ∀ i j, wq L h.length i = some j → (mrg σ L σ')[j]? = σ'[i]? := by
  intro i j hb
  simp only [wq] at hb
  rw [hget]
  split at hb
  ·rw [wM hn hb]
  ·rename_i hi
   cases hb
   have : zq L (h.length + (i - L.length)) = none := qS.2 fun hm => by have := hL _ hm; omega
   rw [this]
   simp only [hh.len]
   rw [if_neg (by omega)]
   congr 1; omega
 have hcases : ∀ (k : Nat) (e : SE), (mrg σ L σ')[k]? = some e → (∃ j, σ'[j]? = some e ∧ (L[j]? = some k ∨ (L.length ≤ j ∧ h.length ≤ k ∧ k = h.length + (j - L.length)))) ∨ (k ∉ L ∧ σ[k]? = some e) := by
  intro k e he
  rw [hget] at he
  split at he
  ·rename_i j hj
   exact .inl ⟨j, he, .inl (ke hj)⟩
  ·rename_i hj
   split at he
   ·exact .inr ⟨qS.1 hj, he⟩
   ·rename_i hlt
    rw [hh.len] at he hlt
    exact .inl ⟨_, he, .inr ⟨by omega, by omega, by omega⟩⟩
 have hminec : ∀ b, Mine σc b → ∃ (i : Nat) (e : SE) (ad : Addr), i ∈ L ∧ σ[i]? = some e ∧ e.ad = some ad ∧ ad.block = b := by
  intro b hb
  obtain ⟨j, e, ad, h1, h2, h3⟩ := zz.1 hb
  rw [hσc] at h1
  cases hLj : L[j]? with
  | none => simp [hLj] at h1
  | some i => simp only [hLj, Option.bind_some] at h1; exact ⟨i, e, ad, List.mem_of_getElem? hLj, h1, h2, h3⟩
 have hapart : ∀ (k : Nat) (e : SE) (ad : Addr), k ∉ L → σ[k]? = some e → e.ad = some ad → ¬ Mine σc ad.block := by
  intro k e ad hk he had hm
  obtain ⟨i, f, ad', hi, hf, ha, hb⟩ := hminec _ hm
  exact hh.inj i k f e ad' ad hf he ha had (fun e => hk (e ▸ hi)) hb
 have hnew : ∀ (j : Nat) (f : SE) (a : Addr), σ'[j]? = some f → f.ad = some a → Mine σc a.block ∨ w.heap.size ≤ a.block := fun j f a hf ha => hE.grow _ (zz.2 ⟨j, f, a, hf, ha, rfl⟩)
 have hkeep : ∀ (k : Nat) (e : SE) (ad : Addr), k ∉ L → σ[k]? = some e → e.ad = some ad → w'.heap[ad.block]? = w.heap[ad.block]? := fun k e ad hk he had =>
  hE.keep _ (hh.lt k e ad he had) (hapart k e ad hk he had)
 have hOc : ∀ b, O b → ¬ Mine σc b := by
  intro b hb hm
  obtain ⟨i, e, ad, _, h1, h2, rfl⟩ := hminec b hm
  exact hg.dis i e ad h1 h2 hb
 have hext : Ext (Own O σ) w (Own O (mrg σ L σ')) w' := by
  refine ⟨hE.os, hE.tape, hE.output, hE.size, fun b hb hno => hE.keep b hb (fun hm => hno ?_), ?_⟩
  ·obtain ⟨i, e, ad, _, h1, h2, h3⟩ := hminec b hm
   exact .inr (zz.2 ⟨i, e, ad, h1, h2, h3⟩)
  ·rintro b (hb | hb)
   ·exact .inl (.inl hb)
   ·obtain ⟨k, e, ad, h1, h2, h3⟩ := zz.1 hb
    rcases hcases k e h1 with ⟨j, hj, _⟩ | ⟨_, hk⟩
    ·rcases hnew j e ad hj h2 with hm | hm
     ·obtain ⟨i, f, ad', _, h4, h5, h6⟩ := hminec _ hm
      exact .inl (.inr (zz.2 ⟨i, f, ad', h4, h5, h6.trans h3⟩))
     ·exact .inr (h3 ▸ hm)
    ·exact .inl (.inr (zz.2 ⟨k, e, ad, hk, h2, h3⟩))
 have hold : Hold K w σ w' (mrg σ L σ') := by
  intro i e he hi
  have hlt := (List.getElem?_eq_some_iff.1 he).1
  by_cases hiL : i ∈ L
  ·obtain ⟨j, hj⟩ := List.mem_iff_getElem?.1 hiL
   have hc : σc[j]? = some e := by rw [hσc, hj]; exact he
   obtain ⟨h1, h2⟩ := hhold j e hc (hK.2 j i hj hi)
   refine ⟨?_, h2⟩
   rw [hget, wM hn hj]; exact h1
  ·refine ⟨?_, fun ad had cs el hcs => ⟨cs, el, ?_, rfl⟩⟩
   ·rw [hget, qS.2 hiL]
    simp only [hlt, if_true]; exact he
   ·rw [hkeep i e ad hiL he had]; exact hcs
 have hrlen : L.length ≤ (hs.map (renB (wq L h.length))).length := by simpa using hlen
 refine ⟨jX hown (ZF hback hR), hext, ?_, hold, ?_, fun b hb hlt => hE.keep b hlt (hOc b hb), ?_⟩
 ·have hkl : (zB K h).length = h.length := by simp [zR]
  have heq : zm (zB K h) (wu L h.length (hs.map (renB (wq L h.length)))) = mrg (zB K h) L (hs.map (renB (wq L h.length))) := by
   rw [← hkl]
   exact JP (fun i hi => by rw [hkl]; exact hL i hi) (by simpa using hlen)
  simp only
  rw [heq]
  have hgetB := uU (h := zB K h) (hs := hs.map (renB (wq L h.length))) (fun i hi => by rw [hkl]; exact hL i hi) hn hrlen
  refine ⟨?_, ?_, ?_, ?_⟩
  ·rw [xE hl', xE hrlen, hkl, hh.len]; simp [hH.len]
  ·intro i j e f a b he hf ha hb hij
   rcases hcases i e he with ⟨i', hi', hi2⟩ | ⟨hiL, hi⟩ <;> rcases hcases j f hf with ⟨j', hj', hj2⟩ | ⟨hjL, hj⟩
   ·refine hH.inj i' j' e f a b hi' hj' ha hb ?_
    rintro rfl
    apply hij
    rcases hi2 with h1 | ⟨h1, h2, h3⟩ <;> rcases hj2 with h4 | ⟨h4, h5, h6⟩
    ·rw [h1] at h4; cases h4; rfl
    ·have := (List.getElem?_eq_some_iff.1 h1).1; omega
    ·have := (List.getElem?_eq_some_iff.1 h4).1; omega
    ·omega
   ·rcases hnew i' e a hi' ha with hm | hm
    ·exact fun e => hapart j f b hjL hj hb (e ▸ hm)
    ·have := hh.lt j f b hj hb; omega
   ·rcases hnew j' f b hj' hb with hm | hm
    ·exact fun e' => hapart i e a hiL hi ha (e' ▸ hm)
    ·have := hh.lt i e a hi ha; omega
   ·exact hh.inj i j e f a b hi hj ha hb hij
  ·intro i e a he ha
   rcases hcases i e he with ⟨i', hi', _⟩ | ⟨_, hi⟩
   ·exact hH.lt i' e a hi' ha
   ·exact Nat.lt_of_lt_of_le (hh.lt i e a hi ha) hE.size
  ·intro i e b he hb
   rw [hgetB] at hb
   rw [hget] at he
   cases hp : zq L i with
   | some j =>
    simp only [hp, List.getElem?_map] at he hb
    cases hsj : hs[j]? with
    | none => simp [hsj] at hb
    | some b0 =>
     simp only [hsj, Option.map_some, Option.some.injEq] at hb
     subst hb
     exact ZQ hown (xS hback (hH.blk j e b0 he hsj))
   | none =>
    simp only [hp] at he hb
    rw [hkl] at hb
    rw [hh.len] at he
    by_cases hlt : i < h.length
    ·simp only [hlt, if_true, zR, List.getElem?_map] at he hb
     rw [List.getElem?_eq_getElem hlt] at hb
     simp only [Option.map_some, Option.some.injEq] at hb
     subst hb
     exact qF hext hold (hh.blk i e _ he (List.getElem?_eq_getElem hlt)) (fun ad had => hkeep i e ad (qS.1 hp) he had)
    ·simp only [hlt, if_false, List.getElem?_map] at he hb
     cases hsj : hs[L.length + (i - h.length)]? with
     | none => simp [hsj] at hb
     | some b0 =>
      simp only [hsj, Option.map_some, Option.some.injEq] at hb
      subst hb
      exact ZQ hown (xS hback (hH.blk _ e b0 he hsj))
 ·refine ⟨fun b hb => Nat.lt_of_lt_of_le (hg.old b hb) hE.size, fun i e ad he had => ?_, hg.stat.ext hext⟩
  rcases hcases i e he with ⟨i', hi', _⟩ | ⟨_, hi⟩
  ·exact hG.dis i' e ad hi' had
  ·exact hg.dis i e ad hi had
 ·intro i e ad he had hi
  exact hkeep i e ad (fun hm => hi (Qd hrlen i hm)) he had
theorem K7 {h : Heap} {Γ : Nat → Option Ctr} (hΓ : ∀ g c, Γ g = some c → ze P g c) (hg : Good O w σ) (hh : HRep (Own O σ) w σ h) {g : Nat} {args : List AV} {vals : List Value} {Q : Res → Prop}
  (ha : RepL (Own O σ) w args σ vals) (hq : (zb5 Γ h g args).holds Q) : yo P g vals.toArray w fun v w' => ∃ r σ', Q r ∧ Post O w σ h r v w' σ' := by
 simp only [zb5] at hq
 have hOσ : ∀ b, Own O σ b → b < w.heap.size := by
  rintro b (hb | hb)
  ·exact hg.old b hb
  ·obtain ⟨i, e, ad, h1, h2, rfl⟩ := zz.1 hb
   exact hh.lt i e ad h1 h2
 have map : ∀ {g vals w} {R R' : Value → World → Prop}, (∀ v w', R v w' → R' v w') → yo P g vals w R → yo P g vals w R' := by
  rintro g vals w R R' hRR (⟨h1, h2⟩ | ⟨v, w', h1, h2⟩)
  ·exact .inl ⟨h1, h2.mono fun e w' ⟨v, he, hR⟩ => ⟨v, he, hRR _ _ hR⟩⟩
  ·exact .inr ⟨v, w', h1, hRR _ _ h2⟩
 split at hq
 ·rename_i c hc
  have hok := hΓ g c hc
  split at hq
  ·
   rename_i hfr
   split at hq
   ·rename_i l hl
    rw [Tree.zl] at hq
    let K : List Nat := l.flatMap (·.2)
    have hK1 : ∀ p ∈ l, ∀ i ∈ p.2, i ∈ K := fun p hp i hi => List.mem_flatMap.2 ⟨p, hp, hi⟩
    have hargs := xw hg hh ha hl hK1
    have hO : ∀ b, Own O (frzS K σ) b → b < w.heap.size := fun b hb => hOσ b (kC hb)
    have hcall := hok _ [] _ hq (fun _ => rfl) (Own O (frzS K σ)) w [] vals ⟨hO, fun i e ad h => by simp at h, hg.stat.own (fun b hb => by rcases hb with hb | ⟨e, he, _⟩; exact kC hb; simp at he)⟩ ⟨rfl, fun i j e f a b h => by simp at h, fun i e a h => by simp at h, fun i e b h => by simp at h⟩
     (zw.2 ⟨hargs.length, fun i x u hx hu => jX (fun b hb => by rcases hb with hb | ⟨e, he, _⟩; exact hb; simp at he) ((zw.1 hargs).2 i x u hx hu)⟩)
    refine map ?_ hcall
    rintro v w' ⟨r, hs, σ', hQ, hR, hH, hG, hl2, hHo, hE⟩
    refine ⟨_, mrg σ [] σ', hQ, ?_⟩
    have hex : ∀ b, Mine ([] : List SE) b → False := fun b ⟨e, he, _⟩ => by simp at he
    refine Qc hg hh (L := []) (σc := []) (Kc := []) (by simp) rfl (by simp) ?_ hR hH (by simp) hE ⟨fun b hb => hG.old b (.inl hb), fun i e ad he had hO' => hG.dis i e ad he had (.inl hO'), hG.stat.own (fun b hb => hb.imp .inl id)⟩ (fun i e h => by simp at h) ⟨by simp, by simp⟩
    simp only [mrg]
    rintro b (hb | ⟨e, he, ad, h1, h2⟩)
    ·exact .inl (.inl (.inl hb))
    rcases List.mem_append.1 he with he | he
    ·exact .inr ⟨hfr, hOσ b (.inr ⟨e, he, ad, h1, h2⟩)⟩
    ·exact .inl (.inr ⟨e, he, ad, h1, h2⟩)
   ·exact hq.elim
  ·
   rename_i hfr
   simp only [zed] at hq
   generalize reach h 60 (args.flatMap UF) [] = L at hq
   split at hq
   ·rename_i hcond
    simp only [Bool.and_eq_true, List.all_eq_true, decide_eq_true_eq] at hcond
    obtain ⟨hL, hn⟩ := hcond
    rw [Tree.zl] at hq
    have hLσ : ∀ i ∈ L, i < σ.length := by rw [hh.len]; exact hL
    let σc : List SE := L.map fun i => σ.getD i ⟨none, 0⟩
    have hσc : ∀ j : Nat, σc[j]? = (L[j]?).bind fun i => σ[i]? := by
     intro j
     simp only [σc, List.getElem?_map]
     cases hj : L[j]? with
     | none => rfl
     | some i =>
      have := hLσ i (List.mem_of_getElem? hj)
      simp [this]
    have hcget : ∀ (j : Nat) (e : SE), σc[j]? = some e → ∃ i, L[j]? = some i ∧ σ[i]? = some e := by
     intro j e he
     rw [hσc] at he
     cases hj : L[j]? with
     | none => simp [hj] at he
     | some i => simp only [hj, Option.bind_some] at he; exact ⟨i, rfl, he⟩
    have hpos : ∀ i j, zq L i = some j → σc[j]? = σ[i]? := by
     intro i j hp
     rw [hσc, ke hp]; rfl
    have hown : ∀ b, Own (Own O (frzS L σ)) σc b ↔ Own O σ b := by
     intro b
     constructor
     ·rintro (hb | hb)
      ·exact kC hb
      ·obtain ⟨j, e, ad, h1, h2, h3⟩ := zz.1 hb
       obtain ⟨i, _, hi⟩ := hcget j e h1
       exact .inr (zz.2 ⟨i, e, ad, hi, h2, h3⟩)
     ·rintro (hb | hb)
      ·exact .inl (.inl hb)
      ·obtain ⟨i, e, ad, h1, h2, h3⟩ := zz.1 hb
       by_cases hiL : i ∈ L
       ·obtain ⟨j, hj⟩ := List.mem_iff_getElem?.1 hiL
        exact .inr (zz.2 ⟨j, e, ad, by rw [hσc, hj]; exact h1, h2, h3⟩)
       ·exact .inl (.inr (zz.2 ⟨i, e, ad, by rw [wo, h1]; simp [hiL], h2, h3⟩))
    have hownEq : Own (Own O (frzS L σ)) σc = Own O σ := funext fun b => propext (hown b)
    have hgc : Good (Own O (frzS L σ)) w σc := by
     refine ⟨fun b hb => hOσ b (kC hb), fun j e ad he had hb => ?_, hg.stat.own fun b hb => (hown b).1 hb⟩
     obtain ⟨i, hj, hi⟩ := hcget j e he
     rcases Zw hb with hb | ⟨k, f, ad', h1, h2, h3, h4⟩
     ·exact hg.dis i e ad hi had hb
     ·exact hh.inj k i f e ad' ad h1 hi h3 had (fun e => h2 (e ▸ List.mem_of_getElem? hj)) h4
    have hhc : HRep (Own (Own O (frzS L σ)) σc) w σc (L.map fun i => renB (zq L) (h.getD i .dead)) := by
     rw [hownEq]
     refine ⟨by simp [σc], ?_, ?_, ?_⟩
     ·intro i j e f a b he hf ha hb hij
      obtain ⟨i', h1, h2⟩ := hcget i e he
      obtain ⟨j', h3, h4⟩ := hcget j f hf
      refine hh.inj i' j' e f a b h2 h4 ha hb ?_
      rintro rfl
      have h5 := wM hn h1
      have h6 := wM hn h3
      rw [h5] at h6; cases h6; exact hij rfl
     ·intro i e a he ha
      obtain ⟨i', h1, h2⟩ := hcget i e he
      exact hh.lt i' e a h2 ha
     ·intro j e b he hb
      obtain ⟨i, h1, h2⟩ := hcget j e he
      simp only [List.getElem?_map, h1, Option.map_some, Option.some.injEq] at hb
      subst hb
      have hlt := hL i (List.mem_of_getElem? h1)
      have hgd : h.getD i .dead = h[i] := by simp [hlt]
      rw [hgd]
      exact xS hpos (hh.blk i e _ h2 (List.getElem?_eq_getElem hlt))
    have hrc : RepL (Own (Own O (frzS L σ)) σc) w (args.map (ren2 (zq L))) σc vals := by
     rw [hownEq]
     exact ha.map2 fun a v => ZF hpos
    have hcall := hok _ _ _ hq (fun hf => by rw [hf] at hfr; cases hfr) (Own O (frzS L σ)) w σc vals hgc hhc hrc
    refine map ?_ hcall
    rintro v w' ⟨r, hs, σ', hQ, hR, hH, hG, hl2, hHo, hE⟩
    have hl2' : L.length ≤ hs.length := by simpa using hl2
    dsimp only at hQ
    rw [if_pos hl2'] at hQ
    refine ⟨_, mrg σ L σ', hQ, ?_⟩
    refine Qc hg hh (L := L) (σc := σc) hL hn hσc ?_ hR hH hl2' hE ⟨fun b hb => hG.old b (.inl hb), fun i e ad he had hO' => hG.dis i e ad he had (.inl hO'), hG.stat.own (fun b hb => hb.imp .inl id)⟩ hHo ?_
    ·rintro b (hb | hb)
     ·exact .inl (.inl (.inl hb))
     ·left
      obtain ⟨k, e, ad, h1, h2, h3⟩ := zz.1 hb
      rw [uU hLσ hn (by rw [hH.len]; exact hl2')] at h1
      split at h1
      ·exact .inr (zz.2 ⟨_, e, ad, h1, h2, h3⟩)
      ·rename_i hp
       split at h1
       ·exact .inl (.inr (zz.2 ⟨k, e, ad, by rw [wo, h1]; simp [qS.1 hp], h2, h3⟩))
       ·exact .inr (zz.2 ⟨_, e, ad, h1, h2, h3⟩)
    ·cases hm : c.wv with
     | true =>
      refine ⟨fun i hi => List.mem_of_mem_drop (show i ∈ L.drop c.pins from hi), fun j i hj hi hmem => hi ?_⟩
      obtain ⟨k, hk⟩ := List.mem_iff_getElem?.1 hmem
      rw [if_pos rfl, List.getElem?_drop] at hk
      have hk2 := List.getElem?_eq_some_iff.1 hk
      obtain ⟨hk3, hk4⟩ := hk2
      rw [List.getElem_range] at hk4
      refine List.mem_iff_getElem?.2 ⟨k, ?_⟩
      show (L.drop c.pins)[k]? = some i
      rw [List.getElem?_drop, hk4]; exact hj
     | false => exact ⟨by simp, by simp⟩
   ·exact hq.elim
 ·exact hq.elim
end
end Go.Sx
end

/- Own maps: keys by their parts; looking, putting, deleting. -/
section
namespace Go.Sx
variable [Stat]
section
variable {O own : Nat → Prop} {w : World} {σ : List SE} {P : Program}
def zG : SK → Sc → Value
 | .inl k, .inl n => .int k n
 | .inr false, .inr s => .string ⟨s.toArray⟩
 | .inr true, .inl n => .bool (decide (n = 1))
 | _, _ => undef
def z5 (ag : Bool) (sh : List SK) (k : List Sc) : Value := bif ag then .agg (List.zipWith zG sh k).toArray else zG (sh.headD (.inr false)) (k.headD (.inl 0))
theorem J7 {s : SK} {x : Sc} (h : okSc s x) {v : Value} : Rep own w (scV s x) σ v ↔ v = zG s x := by
 match s, x, h with
 | .inl k, .inl n, _ => simp [scV, zG, Rep]
 | .inr false, .inr s, _ => simp [scV, zG, Rep]
 | .inr true, .inl n, _ => simp [scV, zG, Rep]
theorem xW : ∀ {sh : List SK} {k : List Sc} {vs : List Value}, qx sh k → (RepL own w (List.zipWith scV sh k) σ vs ↔ vs = List.zipWith zG sh k)
 | [], [], vs, _ => by simp [RepL]
 | s :: sh, x :: k, vs, h => by
  simp only [List.zipWith_cons_cons, RepL]
  constructor
  ·rintro ⟨v, r, rfl, h1, h2⟩
   rw [(J7 h.1).1 h1, (xW h.2).1 h2]
  ·rintro rfl
   exact ⟨_, _, rfl, (J7 h.1).2 rfl, (xW h.2).2 rfl⟩
 | [], _ :: _, _, h => h.elim
 | _ :: _, [], _, h => h.elim
theorem xd {s : SK} {k : List Sc} (h : qx [s] k) : ∃ x, k = [x] ∧ okSc s x := by
 match k, h with
 | [x], h => exact ⟨x, rfl, h.1⟩
 | [], h => exact h.elim
 | _ :: _ :: _, h => exact h.2.elim
theorem jY {ag : Bool} {sh : List SK} {k : List Sc} (h : qx sh k) (h1 : ag = false → sh.length = 1) {v : Value} : Rep own w (keyA ag sh k) σ v ↔ v = z5 ag sh k := by
 cases ag with
 | true =>
  simp only [keyA, z5, cond_true, Rep]
  constructor
  ·rintro ⟨vs, rfl, hr⟩
   rw [(xW h).1 hr]
  ·rintro rfl
   exact ⟨_, rfl, (xW h).2 rfl⟩
 | false =>
  obtain ⟨s, rfl⟩ := List.length_eq_one_iff.1 (h1 rfl)
  obtain ⟨x, rfl, hx⟩ := xd h
  exact J7 hx
theorem QO {s : SK} {x y : Sc} (hx : okSc s x) (hy : okSc s y) (h : zG s x = zG s y) : x = y := by
 match s, x, y, hx, hy with
 | .inl k, .inl n, .inl m, _, _ => simpa [zG] using h
 | .inr false, .inr s, .inr t, _, _ =>
  simp only [zG, Value.string.injEq, ByteArray.mk.injEq] at h
  rw [show s = t by simpa using congrArg Array.toList h]
 | .inr true, .inl n, .inl m, hx, hy =>
  have hx : n = 0 ∨ n = 1 := hx
  have hy : m = 0 ∨ m = 1 := hy
  simp only [zG, Value.bool.injEq] at h
  have : n = m := by rcases hx with rfl | rfl <;> rcases hy with rfl | rfl <;> simp at h ⊢
  rw [this]
theorem VG {ag : Bool} {sh : List SK} {k k' : List Sc} (h : qx sh k) (h' : qx sh k') (h1 : ag = false → sh.length = 1) (he : z5 ag sh k = z5 ag sh k') : k = k' := by
 cases ag with
 | true =>
  simp only [z5, cond_true, Value.agg.injEq] at he
  have he : List.zipWith zG sh k = List.zipWith zG sh k' := by simpa using congrArg Array.toList he
  clear h1
  induction sh generalizing k k' with
  | nil => cases k <;> cases k' <;> first | rfl | exact h.elim | exact h'.elim
  | cons s sh ih =>
   match k, k', h, h' with
   | x :: k, y :: k', h, h' =>
    simp only [List.zipWith_cons_cons, List.cons.injEq] at he
    rw [QO h.1 h'.1 he.1, ih h.2 h'.2 (by rw [he.2]) he.2]
   | [], _, h, _ => exact h.elim
   | _ :: _, [], _, h' => exact h'.elim
 | false =>
  obtain ⟨s, rfl⟩ := List.length_eq_one_iff.1 (h1 rfl)
  obtain ⟨x, rfl, hx⟩ := xd h
  obtain ⟨y, rfl, hy⟩ := xd h'
  rw [QO hx hy he]
theorem QZ {a : AV} {s : SK} {x : Sc} {v : Value} (h : scX a = some (s, x)) (hr : Rep own w a σ v) : okSc s x ∧ v = zG s x := by
 cases a <;> simp only [scX, Option.some.injEq, Prod.mk.injEq] at h <;> try (cases h; done)
 ·obtain ⟨rfl, rfl⟩ := h
  simp only [Rep] at hr
  rename_i b
  refine ⟨by cases b <;> simp [okSc], ?_⟩
  rw [hr]; cases b <;> simp [zG]
 ·obtain ⟨rfl, rfl⟩ := h
  simp only [Rep] at hr
  exact ⟨trivial, hr⟩
 ·obtain ⟨rfl, rfl⟩ := h
  simp only [Rep] at hr
  exact ⟨trivial, hr⟩
theorem Zk : ∀ {l : List AV} {sh : List SK} {k : List Sc} {vs : List Value}, scsX l = some (sh, k) → RepL own w l σ vs → qx sh k ∧ vs = List.zipWith zG sh k
 | [], sh, k, vs, h, hr => by
  simp only [scsX, Option.some.injEq, Prod.mk.injEq] at h
  obtain ⟨rfl, rfl⟩ := h
  simp only [RepL] at hr
  exact ⟨trivial, hr⟩
 | a :: l, sh, k, vs, h, hr => by
  simp only [scsX] at h
  split at h
  ·rename_i s x ss xs h1 h2
   simp only [Option.some.injEq, Prod.mk.injEq] at h
   obtain ⟨rfl, rfl⟩ := h
   simp only [RepL] at hr
   obtain ⟨v, r, rfl, hv, hr⟩ := hr
   obtain ⟨a1, a2⟩ := QZ h1 hv
   obtain ⟨b1, b2⟩ := Zk h2 hr
   exact ⟨⟨a1, b1⟩, by rw [a2, b2]; rfl⟩
  ·cases h
theorem kg {a : AV} {ag : Bool} {sh : List SK} {k : List Sc} {v : Value} (h : keyX a = some (ag, sh, k)) (hr : Rep own w a σ v) : qx sh k ∧ v = z5 ag sh k := by
 have one : ∀ {a : AV}, (match scX a with | some (k, s) => some (false, [k], [s]) | none => none) = some (ag, sh, k) → Rep own w a σ v → qx sh k ∧ v = z5 ag sh k := by
  intro a h hr
  split at h
  ·rename_i s x h1
   simp only [Option.some.injEq, Prod.mk.injEq] at h
   obtain ⟨rfl, rfl, rfl⟩ := h
   obtain ⟨a1, a2⟩ := QZ h1 hr
   exact ⟨⟨a1, trivial⟩, a2⟩
  ·cases h
 unfold keyX at h
 split at h
 ·split at h
  ·rename_i h1
   simp only [Option.some.injEq, Prod.mk.injEq] at h
   obtain ⟨rfl, rfl, rfl⟩ := h
   simp only [Rep] at hr
   obtain ⟨vs, rfl, hr⟩ := hr
   obtain ⟨a1, a2⟩ := Zk h1 hr
   exact ⟨a1, by rw [a2]; rfl⟩
  ·cases h
 ·exact one h hr
theorem Xn {va vb : Array Value} (d : Nat) : ∀ {fs : List Field} {o : Nat} {sh : List SK} {k k' : List Sc}, xz P o fs = some sh → qx sh k → qx sh k' → va.toList.drop o = List.zipWith zG sh k → vb.toList.drop o = List.zipWith zG sh k' →
  (Op.eqFields (d + 1) va vb fs).run P w = .ok (decide (k = k')) w
 | [], o, sh, k, k', h, hk, hk', ha, hb => by
  simp only [xz, Option.some.injEq] at h
  subst h
  cases k <;> cases k' <;> first | exact hk.elim | exact hk'.elim | skip
  simp [Op.eqFields]
 | f :: fs, o, sh, k, k', h, hk, hk', ha, hb => by
  simp only [xz] at h
  split at h
  ·rename_i hc
   obtain ⟨hn, ho⟩ := hc
   subst ho
   have step : ∀ (s : SK) (l : List SK), xz P (f.offset + 1) fs = some l → sh = s :: l → jo P f.type = some false → (∀ x y : Sc, okSc s x → okSc s y → (Op.equalIn (d + 1) f.type (zG s x) (zG s y)).run P w = .ok (decide (x = y)) w) → (Op.eqFields (d + 1) va vb (f :: fs)).run P w = .ok (decide (k = k')) w := by
    rintro s l hl rfl hg heq
    match k, k', hk, hk' with
    | x :: k, y :: k', hk, hk' =>
     simp only [List.zipWith_cons_cons] at ha hb
     have g : ∀ {v : Array Value} {u : Value} {r : List Value}, v.toList.drop f.offset = u :: r → v[f.offset]? = some u ∧ v.toList.drop (f.offset + 1) = r := by
      intro v u r h
      have h0 : (v.toList.drop f.offset)[0]? = some u := by rw [h]; rfl
      rw [List.getElem?_drop] at h0
      refine ⟨by simpa using h0, ?_⟩
      rw [← List.drop_drop, h]; rfl
     obtain ⟨a1, a2⟩ := g ha
     obtain ⟨b1, b2⟩ := g hb
     have ih := Xn d hl hk.2 hk'.2 a2 b2
     simp only [Op.eqFields, if_pos hn, Sem.run_bind, qV hg a1, qV hg b1, Result.andThen_ok, heq x y hk.1 hk'.1]
     by_cases hxy : x = y
     ·subst hxy; simp [ih]
     ·simp [hxy]
    | [], _, hk, _ => exact hk.elim
    | _ :: _, [], _, hk' => exact hk'.elim
   split at h
   ·rename_i kd l hg hu hl
    simp only [Option.some.injEq] at h
    refine step _ l hl h.symm hg fun x y hx hy => ?_
    match x, y, hx, hy with
    | .inl n, .inl m, _, _ =>
     simp only [zG, run_equalIn_int _ _ _ _ _ _ _ hu]
     congr 1
     by_cases hnm : n = m <;> simp [hnm]
   ·rename_i l hg hu hl
    simp only [Option.some.injEq] at h
    refine step _ l hl h.symm hg fun x y hx hy => ?_
    match x, y, hx, hy with
    | .inr s, .inr t, _, _ =>
     simp only [zG, run_equalIn_string _ _ _ _ _ hu]
     congr 1
     by_cases hnm : s = t <;> simp [hnm]
   ·rename_i l hg hu hl
    simp only [Option.some.injEq] at h
    refine step _ l hl h.symm hg fun x y hx hy => ?_
    match x, y, hx, hy with
    | .inl n, .inl m, hx, hy =>
     have hx : n = 0 ∨ n = 1 := hx
     have hy : m = 0 ∨ m = 1 := hy
     simp only [zG, run_equalIn_bool hu]
     congr 1
     rcases hx with rfl | rfl <;> rcases hy with rfl | rfl <;> rfl
   ·cases h
  ·cases h
theorem ZI (em : Bool) (d : Nat) {va : Array Value} : ∀ {fs : List Field} {o : Nat} {sh : List SK} {k : List Sc}, xz P o fs = some sh → qx sh k → va.toList.drop o = List.zipWith zG sh k →
  (forIn fs PUnit.unit (fun f (_ : PUnit) => if f.name ≠ "_" then (do
    let x ← part f.type va f.offset
    Instr.checkKey em (d + 1) f.type x
    pure (ForInStep.yield PUnit.unit)) else pure (ForInStep.yield PUnit.unit) : Field → PUnit → Sem (ForInStep PUnit))).run P w = .ok PUnit.unit w
 | [], o, sh, k, h, hk, ha => by simp
 | f :: fs, o, sh, k, h, hk, ha => by
  simp only [xz] at h
  split at h
  ·rename_i hc
   obtain ⟨hn, ho⟩ := hc
   subst ho
   have step : ∀ (s : SK) (l : List SK), xz P (f.offset + 1) fs = some l → sh = s :: l → jo P f.type = some false → (∀ x : Sc, okSc s x → (Instr.checkKey em (d + 1) f.type (zG s x)).run P w = .ok () w) → (forIn (f :: fs) PUnit.unit (fun f (_ : PUnit) => if f.name ≠ "_" then (do
    let x ← part f.type va f.offset
    Instr.checkKey em (d + 1) f.type x
    pure (ForInStep.yield PUnit.unit)) else pure (ForInStep.yield PUnit.unit) : Field → PUnit → Sem (ForInStep PUnit))).run P w = .ok PUnit.unit w := by
    rintro s l hl rfl hg heq
    match k, hk with
    | x :: k, hk =>
     simp only [List.zipWith_cons_cons] at ha
     have h0 : (va.toList.drop f.offset)[0]? = some (zG s x) := by rw [ha]; rfl
     rw [List.getElem?_drop] at h0
     have h1 : va.toList.drop (f.offset + 1) = List.zipWith zG l k := by rw [← List.drop_drop, ha]; rfl
     have ih := ZI em d hl hk.2 h1
     simp only [List.forIn_cons, Sem.run_bind, if_pos hn, qV hg (by simpa using h0), Result.andThen_ok, heq x hk.1, Sem.run_pure]
     exact ih
    | [], hk => exact hk.elim
   split at h
   ·rename_i kd l hg hu hl
    simp only [Option.some.injEq] at h
    refine step _ l hl h.symm hg fun x hx => ?_
    match x, hx with
    | .inl n, _ => exact Go.MapKept.run_checkKey hu (by simp [zG, Go.MapKept.IsKey]) em d
   ·rename_i l hg hu hl
    simp only [Option.some.injEq] at h
    refine step _ l hl h.symm hg fun x hx => ?_
    match x, hx with
    | .inr n, _ => exact Go.MapKept.run_checkKey hu (by simp [zG, Go.MapKept.IsKey]) em d
   ·rename_i l hg hu hl
    simp only [Option.some.injEq] at h
    refine step _ l hl h.symm hg fun x hx => ?_
    match x, hx with
    | .inl n, _ => exact Go.MapKept.run_checkKey hu (by simp [zG, Go.MapKept.IsKey]) em d
   ·cases h
  ·cases h
theorem Ji (d : Nat) : ∀ {sh : List SK} {k : List Sc}, qx sh k → ((List.zipWith zG sh k).zip (List.zipWith zG sh k)).all (fun (x, y) => Instr.sameBits d x y) = true
 | [], [], _ => rfl
 | s :: sh, x :: k, h => by
  simp only [List.zipWith_cons_cons, List.zip_cons_cons, List.all_cons, Bool.and_eq_true]
  refine ⟨?_, Ji d h.2⟩
  match s, x, h.1 with
  | .inl k, .inl n, _ => simp [zG, Instr.sameBits]
  | .inr false, .inr s, _ => simp [zG, Instr.sameBits, Go.MapKept.bytes_beq]
  | .inr true, .inl n, _ => simp [zG, Instr.sameBits]
 | [], _ :: _, h => h.elim
 | _ :: _, [], h => h.elim
structure zb1 (P : Program) (w : World) (kt : TypeId) (ag : Bool) (sh : List SK) : Prop where
 one : ag = false → sh.length = 1
 check : ∀ (em : Bool) (k : List Sc), qx sh k → (Instr.checkKey em 10000 kt (z5 ag sh k)).run P w = .ok () w
 stays : ∀ (k : List Sc), qx sh k → (Instr.keyThatStays (z5 ag sh k) (z5 ag sh k)).run P w = .ok (z5 ag sh k) w
 find : ∀ (k : List Sc), qx sh k → ∀ (es : List MapEntry) (l : List (List Sc)), es.length = l.length → (∀ (i : Nat) (e : MapEntry) (x : List Sc), es[i]? = some e → l[i]? = some x → qx sh x ∧ e.key = z5 ag sh x) →
  (k ∉ l ∧ (Instr.findKey kt (z5 ag sh k) es).run P w = .ok none w) ∨ ∃ j e, es[j]? = some e ∧ l[j]? = some k ∧ (Instr.findKey kt (z5 ag sh k) es).run P w = .ok (some (j, e.val)) w
theorem WE {kt : TypeId} {ag : Bool} {sh : List SK} (heq : ∀ k k' : List Sc, qx sh k → qx sh k' → (Op.equal kt (z5 ag sh k) (z5 ag sh k')).run P w = .ok (decide (k = k')) w) {k : List Sc} (hk : qx sh k) :
  ∀ (es : List MapEntry) (l : List (List Sc)) (i : Nat), es.length = l.length → (∀ (i : Nat) (e : MapEntry) (x : List Sc), es[i]? = some e → l[i]? = some x → qx sh x ∧ e.key = z5 ag sh x) →
  (k ∉ l ∧ (Instr.findAsking kt (z5 ag sh k) es i).run P w = .ok none w) ∨ ∃ j e, es[j]? = some e ∧ l[j]? = some k ∧ (Instr.findAsking kt (z5 ag sh k) es i).run P w = .ok (some (i + j, e.val)) w
 | [], [], i, _, _ => .inl ⟨by simp, by simp [Instr.findAsking]⟩
 | e :: es, x :: l, i, hl, h => by
  obtain ⟨h1, h2⟩ := h 0 e x rfl rfl
  have hr := heq k x hk h1
  rw [← h2] at hr
  by_cases hkx : k = x
  ·subst hkx
   right
   exact ⟨0, e, rfl, rfl, by simp [Instr.findAsking, hr]⟩
  ·rw [decide_eq_false hkx] at hr
   rcases WE heq hk es l (i + 1) (by simpa using hl) (fun j e x he hx => h (j + 1) e x (by simpa using he) (by simpa using hx)) with ⟨g1, g2⟩ | ⟨j, e', g1, g2, g3⟩
   ·left
    exact ⟨by simp [hkx, g1], by simp [Instr.findAsking, hr, g2]⟩
   ·right
    exact ⟨j + 1, e', by simpa using g1, by simpa using g2, by simp [Instr.findAsking, hr, g3, Nat.add_assoc, Nat.add_comm 1 j]⟩
 | [], _ :: _, _, hl, _ => by simp at hl
 | _ :: _, [], _, hl, _ => by simp at hl
theorem ub {kt : TypeId} {s : SK} {d : TypeDesc} (hd : P.underlying kt = some d) (hk : ∀ x, okSc s x → Go.MapKept.IsKey d (zG s x)) : zb1 P w kt false [s] := by
 have key : ∀ k, qx [s] k → Go.MapKept.IsKey d (z5 false [s] k) := by
  intro k h
  obtain ⟨x, rfl, hx⟩ := xd h
  exact hk x hx
 refine ⟨fun _ => rfl, fun em k h => Go.MapKept.run_checkKey hd (key k h) em 9999, fun k h => Go.MapKept.run_keyThatStays (key k h), fun k h es l hl he => ?_⟩
 have hkeys : ∀ x ∈ es, Go.MapKept.IsKey d x.key := by
  intro x hx
  obtain ⟨i, hi⟩ := List.mem_iff_getElem?.1 hx
  have hil := (List.getElem?_eq_some_iff.1 hi).1
  obtain ⟨h1, h2⟩ := he i x _ hi (List.getElem?_eq_getElem (by omega))
  rw [h2]; exact key _ h1
 rcases Go.MapKept.findNow_spec (key k h) es 0 hkeys with ⟨h1, h2⟩ | ⟨j, e, h1, h2, h3⟩
 ·left
  refine ⟨fun hm => ?_, Go.MapKept.run_findKey hd h1⟩
  obtain ⟨i, hi⟩ := List.mem_iff_getElem?.1 hm
  have hil := (List.getElem?_eq_some_iff.1 hi).1
  have he' := List.getElem?_eq_getElem (l := es) (i := i) (by omega)
  exact h2 _ (List.mem_of_getElem? he') (he i _ k he' hi).2
 ·right
  have hjl := (List.getElem?_eq_some_iff.1 h2).1
  have hx := List.getElem?_eq_getElem (l := l) (i := j) (by omega)
  obtain ⟨g1, g2⟩ := he j e _ h2 hx
  refine ⟨j, e, h2, ?_, by simpa using Go.MapKept.run_findKey hd h1⟩
  rw [hx, VG g1 h (fun _ => rfl) (g2.symm.trans h3)]
theorem Ko {kt : TypeId} {fs : Array Field} {sh : List SK} (hu : P.underlying kt = some (.struct fs)) (hs : P.stoodInHeld kt = false) (hf : xz P 0 fs.toList = some sh) : zb1 P w kt true sh := by
 have heq : ∀ k k' : List Sc, qx sh k → qx sh k' → (Op.equal kt (z5 true sh k) (z5 true sh k')).run P w = .ok (decide (k = k')) w := by
  intro k k' h h'
  have hfs : P.fieldsOf kt = fs := by simp [Program.fieldsOf, hu]
  show (Op.equalIn 10000 kt (.agg _) (.agg _)).run P w = _
  rw [run_equalIn_struct w 9999 kt _ _ (by rw [hfs]; exact hu) hs, hfs]
  exact Xn 9998 hf h h' (by simp) (by simp)
 refine ⟨fun h => (by cases h), fun em k h => ?_, fun k h => ?_, fun k h es l hl he => ?_⟩
 ·simp only [z5, cond_true]
  rw [show 10000 = 9998 + 1 + 1 from rfl, Instr.checkKey]
  simp only [Sem.run_bind, run_underlying hu, Result.andThen_ok]
  rw [← Array.forIn_toList]
  have := ZI (w := w) (P := P) (va := (List.zipWith zG sh k).toArray) em 9998 hf h (by simp)
  rw [this]
  rfl
 ·have : Instr.sameBits 10000 (z5 true sh k) (z5 true sh k) = true := by
   simp only [z5, cond_true, Instr.sameBits, Bool.and_eq_true]
   exact ⟨by simp, Ji _ h⟩
  simp [Instr.keyThatStays, this]
 ·have hrun : (Instr.findKey kt (z5 true sh k) es).run P w = (Instr.findAsking kt (z5 true sh k) es).run P w := by
   simp only [Instr.findKey, Sem.run_bind, run_underlying hu, Result.andThen_ok]
   cases es with
   | nil => simp [Instr.findNow, Instr.findAsking]
   | cons e es => simp [Instr.findNow, Instr.sameNow]
  rw [hrun]
  rcases WE heq h es l 0 hl he with ⟨g1, g2⟩ | ⟨j, e, g1, g2, g3⟩
  ·exact .inl ⟨g1, g2⟩
  ·exact .inr ⟨j, e, g1, g2, by simpa using g3⟩
theorem kK {kt : TypeId} {ag : Bool} {sh : List SK} (h : xK P kt = some (ag, sh)) : zb1 P w kt ag sh := by
 unfold xK at h
 split at h
 ·rename_i hu
  simp only [Option.some.injEq, Prod.mk.injEq] at h
  obtain ⟨rfl, rfl⟩ := h
  refine ub hu fun x hx => ?_
  match x, hx with
  | .inl n, _ => simp [zG, Go.MapKept.IsKey]
 ·rename_i hu
  simp only [Option.some.injEq, Prod.mk.injEq] at h
  obtain ⟨rfl, rfl⟩ := h
  refine ub hu fun x hx => ?_
  match x, hx with
  | .inr n, _ => simp [zG, Go.MapKept.IsKey]
 ·rename_i hu
  simp only [Option.some.injEq, Prod.mk.injEq] at h
  obtain ⟨rfl, rfl⟩ := h
  refine ub hu fun x hx => ?_
  match x, hx with
  | .inl n, _ => simp [zG, Go.MapKept.IsKey]
 ·rename_i fs hu
  split at h
  ·rename_i hs
   split at h
   ·rename_i l hf
    simp only [Option.some.injEq, Prod.mk.injEq] at h
    obtain ⟨rfl, rfl⟩ := h
    exact Ko hu hs hf
   ·cases h
  ·cases h
 ·cases h
theorem qm {ag : Bool} {sh : List SK} {get : List Sc → AV} : ∀ {es : List MapEntry} {l : List (List Sc)}, kA own w ag sh get es l ↔ es.length = l.length ∧ ∀ (i : Nat) (e : MapEntry) (x : List Sc), es[i]? = some e → l[i]? = some x → qx sh x ∧ Rep own w (keyA ag sh x) [] e.key ∧ Rep own w (get x) [] e.val
 | [], [] => by simp [kA]
 | e :: es, x :: l => by
  simp only [kA, qm (es := es) (l := l), List.length_cons, Nat.add_right_cancel_iff]
  constructor
  ·rintro ⟨h1, h2, h3, h4, h5⟩
   refine ⟨h4, fun i e' y he hy => ?_⟩
   cases i with
   | zero => simp at he hy; subst he; subst hy; exact ⟨h1, h2, h3⟩
   | succ i => exact h5 i e' y (by simpa using he) (by simpa using hy)
  ·rintro ⟨h4, h5⟩
   obtain ⟨h1, h2, h3⟩ := h5 0 e x rfl rfl
   exact ⟨h1, h2, h3, h4, fun i e' y he hy => h5 (i + 1) e' y (by simpa using he) (by simpa using hy)⟩
 | [], _ :: _ => by simp [kA]
 | _ :: _, [] => by simp [kA]
theorem jN.none {es : Array MapEntry} {clock : Nat} {l l' : List (List Sc)} {pe : Option (List Sc × Int)} (h : jN es clock l pe) : jN es clock l' Option.none := ⟨h.nd, h.lt, fun k st hk => by cases hk⟩
theorem jN.push {es : Array MapEntry} {clock : Nat} {l : List (List Sc)} {pe : Option (List Sc × Int)} (h : jN es clock l pe) (k v : Value) {l' : List (List Sc)} : jN (es.push { key := k, val := v, born := clock }) (clock + 1) l' Option.none := by
 refine ⟨?_, fun x hx => ?_, fun k st hk => by cases hk⟩
 ·simp only [Array.toList_push, List.map_append, List.map_cons, List.map_nil]
  refine List.nodup_append.2 ⟨h.nd, by simp, fun a ha c hc e1 => ?_⟩
  simp only [List.mem_singleton] at hc
  obtain ⟨x, hx, rfl⟩ := List.mem_map.1 ha
  have := h.lt x hx
  omega
 ·simp only [Array.toList_push, List.mem_append, List.mem_singleton] at hx
  rcases hx with hx | rfl
  ·have := h.lt x hx; omega
  ·simp
theorem QI {es : Array MapEntry} (j : Nat) {f : MapEntry → MapEntry} (hf : ∀ e, (f e).born = e.born) : (es.modify j f).toList.map (·.born) = es.toList.map (·.born) := by
 apply List.ext_getElem?
 intro i
 simp only [List.getElem?_map, Array.getElem?_toList, Array.getElem?_modify]
 split
 ·cases es[i]? with
  | none => rfl
  | some e => simp [hf]
 ·rfl
theorem jN.turn {es : Array MapEntry} {clock : Nat} {l l' : List (List Sc)} {pe : Option (List Sc × Int)} (h : jN es clock l pe) (j : Nat) {f : MapEntry → MapEntry} (hf : ∀ e, (f e).born = e.born) : jN (es.modify j f) clock l' Option.none := by
 refine ⟨by rw [QI j hf]; exact h.nd, fun x hx => ?_, fun k st hk => by cases hk⟩
 have : x.born ∈ (es.modify j f).toList.map (·.born) := List.mem_map.2 ⟨x, hx, rfl⟩
 rw [QI j hf] at this
 obtain ⟨y, hy, e⟩ := List.mem_map.1 this
 rw [← e]; exact h.lt y hy
theorem jN.erase {es es' : Array MapEntry} {clock j : Nat} {l l' : List (List Sc)} {pe : Option (List Sc × Int)} (h : jN es clock l pe) (he : es'.toList = es.toList.eraseIdx j) : jN es' clock l' Option.none := by
 refine ⟨?_, fun x hx => ?_, fun k st hk => by cases hk⟩
 ·rw [he]; exact ((List.eraseIdx_sublist es.toList j).map _).nodup h.nd
 ·rw [he] at hx; exact h.lt x ((List.eraseIdx_sublist es.toList j).subset hx)
theorem WB {h : Heap} (hh : HRep own w σ h) {t : TypeId} {ok : Bool} {i : Nat} {key : AV} {vx vi : Value} (hx : Rep own w (.omap i) σ vx) (hi2 : Rep own w key σ vi) {Q : AV → Prop} (hq : (VJ P h t ok i key).holds Q) :
  ∃ r v, (Instr.lookup t vx vi ok).run P w = .ok v w ∧ Q r ∧ Rep own w r σ v := by
 unfold VJ at hq
 split at hq
 ·rename_i ag sh has get pe ag' sh' k kt et hb hk hu
  split at hq
  ·rename_i ag2 sh2 z hs hz
   split at hq
   ·rename_i hc
    obtain ⟨rfl, rfl, rfl, rfl⟩ := hc
    have K := kK (w := w) hs
    obtain ⟨k1, rfl⟩ := kg hk hi2
    simp only [Rep] at hx
    obtain ⟨e, ad, he, had, rfl⟩ := hx
    have hB := hh.blk i e _ he hb
    simp only [BRep] at hB
    obtain ⟨ad', es, clock, l, had', hes, hone, ⟨hnd, hst⟩, hhas, hE⟩ := hB
    rw [had] at had'; cases had'
    obtain ⟨hl, hget⟩ := qm.1 hE
    have hzr : (zeroValue et).run P w = .ok z w := by
     cases hin : P.info? et with
     | none => simp [hin] at hz
     | some inf =>
      simp only [hin, Option.bind_some] at hz
      simp [zeroValue, run_typeInfo w hin, hz]
    have hrun : ∀ r, (Instr.findKey kt (z5 ag2 sh2 k) es.toList).run P w = .ok r w → (Instr.lookup t (.map (some ad.block)) (z5 ag2 sh2 k) ok).run P w = (match r with
      | some (_, v) => .ok (if ok then .tuple #[v, .bool true] else v) w
      | none => .ok (if ok then .tuple #[z, .bool false] else z) w) := by
     intro r hr
     simp only [Instr.lookup, Sem.run_bind, run_underlying hu, Result.andThen_ok, Sem.run_pure, Go.MapKept.run_getObj_map hes, K.check _ k k1, hr]
     cases r with
     | none => simp [hzr]
     | some p => simp
    rcases K.find k k1 es.toList l hl (fun i e x g1 g2 => by
      obtain ⟨a1, a2, _⟩ := hget i e x g1 g2
      exact ⟨a1, (jY a1 K.one).1 a2⟩) with ⟨g1, g2⟩ | ⟨j, e', g1, g2, g3⟩
    ·have hno : has k = false := by
      cases hb : has k with
      | false => rfl
      | true => exact absurd ((hhas k).1 hb) g1
     have hq1 := hq.2 hno
     have hy : Rep own w (xq z) σ z := wh z
     refine ⟨_, _, hrun _ g2, hq1, ?_⟩
     cases ok with
     | true =>
      simp only [q6, cond_true, if_true, Rep]
      exact ⟨[z, .bool false], rfl, by simp only [RepL]; exact ⟨_, _, rfl, hy, _, _, rfl, by simp [Rep], rfl⟩⟩
     | false => simpa [q6] using hy
    ·have hyes : has k = true := (hhas k).2 (List.mem_of_getElem? g2)
     have hq1 := hq.1 hyes
     obtain ⟨_, _, a3⟩ := hget j e' k g1 g2
     have hy : Rep own w (get k) σ e'.val := a3.any σ
     refine ⟨_, _, hrun _ g3, hq1, ?_⟩
     cases ok with
     | true =>
      simp only [q6, cond_true, if_true, Rep]
      exact ⟨[e'.val, .bool true], rfl, by simp only [RepL]; exact ⟨_, _, rfl, hy, _, _, rfl, by simp [Rep], rfl⟩⟩
     | false => simpa [q6] using hy
   ·exact hq.elim
  ·exact hq.elim
 ·exact hq.elim
theorem yh {a : AV} {v : Value} (h : yX a = true) (hr : Rep own w a σ v) : Rep own w a [] v := by
 cases a with
 | fn f x y => cases x <;> cases y <;> simp [yX] at h; simpa [Rep, RepL] using hr
 | _ => first | (simp [yX] at h; done) | simpa [Rep] using hr
theorem yi : ∀ {l : List AV} {vs : List Value}, l.all yX = true → RepL own w l σ vs → RepL own w l [] vs
 | [], _, _, h => by simpa [RepL] using h
 | a :: l, vs, hp, h => by
  simp only [List.all_cons, Bool.and_eq_true] at hp
  simp only [RepL] at h ⊢
  obtain ⟨v, r, rfl, h1, h2⟩ := h
  exact ⟨v, r, rfl, yh hp.1 h1, yi hp.2 h2⟩
theorem yf {a : AV} {v : Value} (h : JV a = true) (hr : Rep own w a σ v) : Rep own w a [] v := by
 cases a with
 | agg l =>
  simp only [JV] at h
  simp only [Rep] at hr ⊢
  obtain ⟨vs, rfl, hr⟩ := hr
  exact ⟨vs, rfl, yi h hr⟩
 | _ => exact yh h hr
def vj (w : World) (b : Nat) (o : Obj) : World := { w with heap := w.heap.setIfInBounds b o }
theorem KF {b : Nat} {o o' : Obj} (hb : w.heap[b]? = some o') : Turn w (vj w b o) b := ⟨rfl, rfl, rfl, by simp [vj], fun k hk => (Go.MapKept.heap_set (o' := o) hb).2 k hk⟩
theorem jr {h : Heap} (hg : Good O w σ) (hh : HRep (Own O σ) w σ h) {i : Nat} {e : SE} {ad : Addr} {es : Array MapEntry} {clock : Nat} {o : Obj} {B : Blk} {r : AV} {v : Value} (he : σ[i]? = some e) (had : e.ad = some ad) (hes : w.heap[ad.block]? = some (.map es clock))
  (hr : ∀ w', Rep (Own O σ) w' r σ v) (hB : Ext (Own O σ) w (Own O σ) (vj w ad.block o) → (vj w ad.block o).heap[ad.block]? = some o → BRep (Own O σ) (vj w ad.block o) σ e B) : Post O w σ h ⟨r, [(i, B)], []⟩ v (vj w ad.block o) σ := by
 have ht := KF (o := o) hes
 have hown : Own O σ ad.block := .inr ⟨e, List.mem_of_getElem? he, ad, had, rfl⟩
 have hsz : ∀ cs el, w.heap[ad.block]? = some (.cells cs el (0, 0)) → ∃ cs' el', (vj w ad.block o).heap[ad.block]? = some (.cells cs' el' (0, 0)) ∧ cs'.size = cs.size := fun cs el hcs => by rw [hes] at hcs; cases hcs
 refine ⟨hr _, q8 ht hown, ?_, wD ht hsz, ⟨fun b hb => by rw [ht.size]; exact hg.old b hb, hg.dis, hg.stat.ext (q8 ht hown)⟩, fun b hb _ => ht.other b (fun h => hg.dis i e ad he had (h ▸ hb)), fun j f a hf ha hj => ht.other _ (hh.inj j i f e a ad hf he ha had (by simpa using hj))⟩
 simp only [zB, zm]
 exact u3 hh he had ht hsz (hB (q8 ht hown) (Go.MapKept.heap_set hes).1)
theorem Zj {h : Heap} (hg : Good O w σ) (hh : HRep (Own O σ) w σ h) {t : TypeId} {m key x : AV} {vm vk vx : Value} (hm : Rep (Own O σ) w m σ vm) (hk0 : Rep (Own O σ) w key σ vk) (hx : Rep (Own O σ) w x σ vx) {Q : Res → Prop} (hq : (Xl P h t m key x).holds Q) :
  ∃ r w' σ', (Instr.mapUpdate t vm vk vx).run P w = .ok () w' ∧ Q r ∧ Post O w σ h r undef w' σ' := by
 unfold Xl at hq
 split at hq
 ·rename_i i
  split at hq
  ·rename_i ag sh has get pe ag' sh' k kt et hb hk hu
   split at hq
   ·rename_i ag2 sh2 hs
    split at hq
    ·rename_i hc
     obtain ⟨rfl, rfl, rfl, rfl, hpl⟩ := hc
     have K := kK (w := w) hs
     obtain ⟨k1, rfl⟩ := kg hk hk0
     simp only [Rep] at hm
     obtain ⟨e, ad, he, had, rfl⟩ := hm
     have hB := hh.blk i e _ he hb
     simp only [BRep] at hB
     obtain ⟨ad', es, clock, l, had', hes, hone, ⟨hnd, hst⟩, hhas, hE⟩ := hB
     rw [had] at had'; cases had'
     obtain ⟨hl, hget⟩ := qm.1 hE
     have hxv := yf hpl hx
     rcases K.find k k1 es.toList l hl (fun i e x g1 g2 => by
       obtain ⟨a1, a2, _⟩ := hget i e x g1 g2
       exact ⟨a1, (jY a1 K.one).1 a2⟩) with ⟨g1, g2⟩ | ⟨j, e', g1, g2, g3⟩
     ·refine ⟨_, vj w ad.block (.map (es.push { key := z5 ag2 sh2 k, val := vx, born := clock }) (clock + 1)), σ, ?_, hq, jr hg hh he had hes (fun _ => by simp [Rep]) fun hext hnew => ?_⟩
      ·simp only [Instr.mapUpdate, Sem.run_bind, run_underlying hu, Result.andThen_ok, Go.MapKept.run_getObj_map hes, K.check _ k k1, g2]
       exact Go.MapKept.run_setObj_map _ hes
      ·simp only [BRep]
       refine ⟨ad, _, _, l ++ [k], had, hnew, hone, ⟨?_, hst.push _ _⟩, fun y => ?_, qm.2 ⟨by simpa using hl, fun i e2 y h1 h2 => ?_⟩⟩
       ·rw [List.nodup_append]
        exact ⟨hnd, by simp, fun a ha b hb => by simp at hb; subst hb; exact fun hab => g1 (hab ▸ ha)⟩
       ·simp only [jl, Bool.or_eq_true, decide_eq_true_eq, hhas, List.mem_append, List.mem_singleton]
        exact Or.comm
       ·simp only [Array.toList_push, List.getElem?_append] at h1
        rw [List.getElem?_append] at h2
        by_cases hi : i < l.length
        ·rw [if_pos (by omega)] at h1
         rw [if_pos hi] at h2
         obtain ⟨a1, a2, a3⟩ := hget i e2 y h1 h2
         refine ⟨a1, zi hext _ _ a2, ?_⟩
         have hne : y ≠ k := fun hy => g1 (hy ▸ List.mem_of_getElem? h2)
         simp only [zH, if_neg hne]
         exact zi hext _ _ a3
        ·rw [if_neg (by omega)] at h1
         rw [if_neg hi] at h2
         have hi0 : i - l.length = 0 := by
          have := (List.getElem?_eq_some_iff.1 h2).1
          simp at this; omega
         rw [hl, hi0] at h1
         rw [hi0] at h2
         simp at h1 h2
         subst h1; subst h2
         refine ⟨k1, (jY k1 K.one).2 rfl, ?_⟩
         simp only [zH, if_true]
         exact zi hext _ _ hxv
     ·have g1' : es[j]? = some e' := by simpa using g1
      obtain ⟨_, b2, _⟩ := hget j e' k g1 g2
      have hkey : e'.key = z5 ag2 sh2 k := (jY k1 K.one).1 b2
      refine ⟨_, vj w ad.block (.map (es.modify j fun e => { e with key := z5 ag2 sh2 k, val := vx }) clock), σ, ?_, hq, jr hg hh he had hes (fun _ => by simp [Rep]) fun hext hnew => ?_⟩
      ·simp only [Instr.mapUpdate, Sem.run_bind, run_underlying hu, Result.andThen_ok, Go.MapKept.run_getObj_map hes, K.check _ k k1, g3, g1', Option.map_some, Option.getD_some, hkey, K.stays k k1]
       exact Go.MapKept.run_setObj_map _ hes
      ·simp only [BRep]
       refine ⟨ad, _, _, l, had, hnew, hone, ⟨hnd, hst.turn j (fun _ => rfl)⟩, fun y => ?_, qm.2 ⟨by simpa using hl, fun i e2 y h1 h2 => ?_⟩⟩
       ·simp only [jl, Bool.or_eq_true, decide_eq_true_eq, hhas]
        exact ⟨fun h => h.elim (fun h => h ▸ List.mem_of_getElem? g2) id, .inr⟩
       ·simp only [Array.getElem?_toList, Array.getElem?_modify] at h1
        by_cases hij : j = i
        ·subst hij
         rw [if_pos rfl, g1'] at h1
         simp only [Option.map_some, Option.some.injEq] at h1
         subst h1
         rw [g2] at h2; cases h2
         refine ⟨k1, (jY k1 K.one).2 rfl, ?_⟩
         simp only [zH, if_true]
         exact zi hext _ _ hxv
        ·rw [if_neg hij] at h1
         obtain ⟨a1, a2, a3⟩ := hget i e2 y (by simpa using h1) h2
         refine ⟨a1, zi hext _ _ a2, ?_⟩
         have hne : y ≠ k := fun hy => by
          subst hy
          exact hij ((List.getElem?_inj (List.getElem?_eq_some_iff.1 g2).1 hnd).1 (g2.trans h2.symm))
         simp only [zH, if_neg hne]
         exact zi hext _ _ a3
    ·exact hq.elim
   ·exact hq.elim
  ·exact hq.elim
 ·exact hq.elim
theorem Ku {h : Heap} (hg : Good O w σ) (hh : HRep (Own O σ) w σ h) {t ty : TypeId} {tk : TypeId} {m key : AV} {vm vk : Value} (hm : Rep (Own O σ) w m σ vm) (hk0 : Rep (Own O σ) w key σ vk) {Q : Res → Prop} (hq : (zaz P h t m key).holds Q) :
  ∃ r w' σ', (Builtin.delete_ #[t, tk] ty #[vm, vk]).run P w = .ok (.tuple #[]) w' ∧ Q r ∧ Post O w σ h r (.tuple #[]) w' σ' := by
 unfold zaz at hq
 split at hq
 ·rename_i i
  split at hq
  ·rename_i ag sh has get pe ag' sh' k kt et hb hk hu
   split at hq
   ·rename_i ag2 sh2 hs
    split at hq
    ·rename_i hc
     obtain ⟨rfl, rfl, rfl, rfl⟩ := hc
     have K := kK (w := w) hs
     obtain ⟨k1, rfl⟩ := kg hk hk0
     simp only [Rep] at hm
     obtain ⟨e, ad, he, had, rfl⟩ := hm
     have hB := hh.blk i e _ he hb
     simp only [BRep] at hB
     obtain ⟨ad', es, clock, l, had', hes, hone, ⟨hnd, hst⟩, hhas, hE⟩ := hB
     rw [had] at had'; cases had'
     obtain ⟨hl, hget⟩ := qm.1 hE
     have rt : ∀ w', Rep (Own O σ) w' (.tup []) σ (.tuple #[]) := fun w' => by simp [Rep, RepL]
     rcases K.find k k1 es.toList l hl (fun i e x g1 g2 => by
       obtain ⟨a1, a2, _⟩ := hget i e x g1 g2
       exact ⟨a1, (jY a1 K.one).1 a2⟩) with ⟨g1, g2⟩ | ⟨j, e', g1, g2, g3⟩
     ·refine ⟨_, vj w ad.block (.map es clock), σ, ?_, hq, jr hg hh he had hes rt fun hext hnew => ?_⟩
      ·simp only [Builtin.delete_, Sem.run_bind, run_underlying hu, Result.andThen_ok, Go.MapKept.run_getObj_map hes, K.check _ k k1, g2, Go.MapKept.run_setObj_map _ hes, Sem.run_pure, List.getElem?_toArray, List.getElem?_cons_zero, List.getElem?_cons_succ]
       rfl
      ·simp only [BRep]
       refine ⟨ad, _, _, l, had, hnew, hone, ⟨hnd, hst.none⟩, fun y => ?_, hE.ext hext⟩
       simp only [uq, Bool.and_eq_true, Bool.not_eq_true', decide_eq_false_iff_not, hhas]
       exact ⟨fun h => h.2, fun h => ⟨fun hy => g1 (hy ▸ h), h⟩⟩
     ·have g1' : es[j]? = some e' := by simpa using g1
      have hjs : j < es.size := (Array.getElem?_eq_some_iff.1 g1').1
      refine ⟨_, vj w ad.block (.map (es.eraseIdxIfInBounds j) clock), σ, ?_, hq, jr hg hh he had hes rt fun hext hnew => ?_⟩
      ·simp only [Builtin.delete_, Sem.run_bind, run_underlying hu, Result.andThen_ok, Go.MapKept.run_getObj_map hes, K.check _ k k1, g3, Go.MapKept.run_setObj_map _ hes, Sem.run_pure, List.getElem?_toArray, List.getElem?_cons_zero, List.getElem?_cons_succ]
       rfl
      ·simp only [BRep]
       have hlist : (es.eraseIdxIfInBounds j).toList = es.toList.eraseIdx j := by
        unfold Array.eraseIdxIfInBounds
        rw [dif_pos hjs, Array.toList_eraseIdx]
       have hjl : j < l.length := (List.getElem?_eq_some_iff.1 g2).1
       refine ⟨ad, _, _, l.eraseIdx j, had, hnew, hone, ⟨(List.eraseIdx_sublist _ _).nodup hnd, hst.erase hlist⟩, fun y => ?_, qm.2 ⟨?_, fun i e2 y h1 h2 => ?_⟩⟩
       ·simp only [uq, Bool.and_eq_true, Bool.not_eq_true', decide_eq_false_iff_not, hhas, List.mem_eraseIdx_iff_getElem?]
        constructor
        ·rintro ⟨h1, h2⟩
         obtain ⟨i, hi⟩ := List.mem_iff_getElem?.1 h2
         refine ⟨i, fun hij => h1 ?_, hi⟩
         subst hij
         rw [g2] at hi; cases hi; rfl
        ·rintro ⟨i, hij, hi⟩
         refine ⟨fun hy => hij ?_, List.mem_of_getElem? hi⟩
         subst hy
         exact (List.getElem?_inj (List.getElem?_eq_some_iff.1 hi).1 hnd).1 (hi.trans g2.symm)
       ·rw [hlist, List.length_eraseIdx, List.length_eraseIdx, hl]
       ·rw [hlist, List.getElem?_eraseIdx] at h1
        rw [List.getElem?_eraseIdx] at h2
        split at h1
        ·rename_i hij
         rw [if_pos hij] at h2
         obtain ⟨a1, a2, a3⟩ := hget i e2 y h1 h2
         exact ⟨a1, zi hext _ _ a2, zi hext _ _ a3⟩
        ·rename_i hij
         rw [if_neg hij] at h2
         obtain ⟨a1, a2, a3⟩ := hget (i + 1) e2 y h1 h2
         exact ⟨a1, zi hext _ _ a2, zi hext _ _ a3⟩
    ·exact hq.elim
   ·exact hq.elim
  ·exact hq.elim
 ·exact hq.elim
theorem find_born {l : List MapEntry} (hn : (l.map (·.born)).Nodup) {j : Nat} {e0 : MapEntry} (h : l[j]? = some e0) : l.findIdx? (fun e => ((e.born : Nat) : Int) == ((e0.born : Nat) : Int)) = some j := by
 induction l generalizing j with
 | nil => simp at h
 | cons a r ih =>
  simp only [List.map_cons, List.nodup_cons] at hn
  cases j with
  | zero =>
   simp only [List.getElem?_cons_zero, Option.some.injEq] at h
   subst h
   simp [List.findIdx?_cons]
  | succ j =>
   simp only [List.getElem?_cons_succ] at h
   have hne : a.born ≠ e0.born := fun e1 => hn.1 (List.mem_map.2 ⟨e0, List.mem_of_getElem? h, e1.symm⟩)
   have hb : (((a.born : Nat) : Int) == ((e0.born : Nat) : Int)) = false := by
    simp only [beq_eq_false_iff_ne, ne_eq, Int.natCast_inj]
    exact hne
   rw [List.findIdx?_cons, hb]
   simp [ih hn.2 h]
theorem V6 {h : Heap} (hg : Good O w σ) (hh : HRep (Own O σ) w σ h) {t : TypeId} {m key : AV} {vm vk : Value} (hm : Rep (Own O σ) w m σ vm) (hk0 : Rep (Own O σ) w key σ vk) {Q : Res → Prop} (hq : (zb9 P h t m key).holds Q) :
  ∃ r v w' σ', (Instr.mapEntry t vm vk).run P w = .ok v w' ∧ Q r ∧ Post O w σ h r v w' σ' := by
 unfold zb9 at hq
 split at hq
 ·rename_i i
  split at hq
  ·rename_i ag sh has get pe ag' sh' k kt et hb hk hu
   split at hq
   ·rename_i ag2 sh2 z hs hz
    split at hq
    ·rename_i hc
     obtain ⟨rfl, rfl, rfl, rfl⟩ := hc
     have K := kK (w := w) hs
     obtain ⟨k1, rfl⟩ := kg hk hk0
     simp only [Rep] at hm
     obtain ⟨e, ad, he, had, rfl⟩ := hm
     have hB := hh.blk i e _ he hb
     simp only [BRep] at hB
     obtain ⟨ad', es, clock, l, had', hes, hone, ⟨hnd, hst⟩, hhas, hE⟩ := hB
     rw [had] at had'; cases had'
     obtain ⟨hl, hget⟩ := qm.1 hE
     have hzr : (zeroValue et).run P w = .ok z w := by
      cases hin : P.info? et with
      | none => simp [hin] at hz
      | some inf =>
       simp only [hin, Option.bind_some] at hz
       simp [zeroValue, run_typeInfo w hin, hz]
     have hq := hq.2
     have rv : ∀ (v0 : Value) (n : Nat) w', Rep (Own O σ) w' (.tup [.undef, .int .i64 (n : Int)]) σ (.tuple #[v0, goInt n]) := fun v0 n w' => by
      simp only [Rep]
      exact ⟨[v0, goInt n], rfl, by simp only [RepL]; exact ⟨_, _, rfl, by simp [Rep], _, _, rfl, by simp [Rep, goInt], rfl⟩⟩
     rcases K.find k k1 es.toList l hl (fun i e x g1 g2 => by
       obtain ⟨a1, a2, _⟩ := hget i e x g1 g2
       exact ⟨a1, (jY a1 K.one).1 a2⟩) with ⟨g1, g2⟩ | ⟨j, e', g1, g2, g3⟩
     ·refine ⟨_, .tuple #[z, goInt clock], vj w ad.block (.map (es.push { key := z5 ag2 sh2 k, val := z, born := clock }) (clock + 1)), σ, ?_, hq (clock : Int) trivial, jr hg hh he had hes (rv z clock) fun hext hnew => ?_⟩
      ·simp only [Instr.mapEntry, Sem.run_bind, run_underlying hu, Result.andThen_ok, Go.MapKept.run_getObj_map hes, K.check _ k k1, g2, hzr, Go.MapKept.run_setObj_map _ hes, Sem.run_pure]
       rfl
      ·simp only [BRep]
       have hp := hst.push (z5 ag2 sh2 k) z (l' := l ++ [k])
       refine ⟨ad, _, _, l ++ [k], had, hnew, hone, ⟨?_, hp.nd, hp.lt, fun k' st hk' => ?_⟩, fun y => ?_, qm.2 ⟨by simpa using hl, fun i e2 y h1 h2 => ?_⟩⟩
       ·rw [List.nodup_append]
        exact ⟨hnd, by simp, fun a ha b hb => by simp at hb; subst hb; exact fun hab => g1 (hab ▸ ha)⟩
       ·simp only [Option.some.injEq, Prod.mk.injEq] at hk'
        obtain ⟨rfl, rfl⟩ := hk'
        refine ⟨es.size, _, Array.getElem?_push_size, ?_, rfl⟩
        rw [← Array.length_toList, hl]
        simp
       ·simp only [jl, Bool.or_eq_true, decide_eq_true_eq, hhas, List.mem_append, List.mem_singleton]
        exact Or.comm
       ·simp only [Array.toList_push, List.getElem?_append] at h1
        rw [List.getElem?_append] at h2
        by_cases hi : i < l.length
        ·rw [if_pos (by omega)] at h1
         rw [if_pos hi] at h2
         obtain ⟨a1, a2, a3⟩ := hget i e2 y h1 h2
         refine ⟨a1, zi hext _ _ a2, ?_⟩
         have hne : y ≠ k := fun hy => g1 (hy ▸ List.mem_of_getElem? h2)
         simp only [zH, if_neg hne]
         exact zi hext _ _ a3
        ·rw [if_neg (by omega)] at h1
         rw [if_neg hi] at h2
         have hi0 : i - l.length = 0 := by
          have := (List.getElem?_eq_some_iff.1 h2).1
          simp at this; omega
         rw [hl, hi0] at h1
         rw [hi0] at h2
         simp at h1 h2
         subst h1; subst h2
         refine ⟨k1, (jY k1 K.one).2 rfl, ?_⟩
         simp [zH, Rep]
     ·have g1' : es[j]? = some e' := by simpa using g1
      obtain ⟨_, b2, _⟩ := hget j e' k g1 g2
      have hkey : e'.key = z5 ag2 sh2 k := (jY k1 K.one).1 b2
      refine ⟨_, .tuple #[e'.val, goInt e'.born], vj w ad.block (.map (es.modify j fun e => { e with key := z5 ag2 sh2 k }) clock), σ, ?_, hq (e'.born : Int) trivial, jr hg hh he had hes (rv e'.val e'.born) fun hext hnew => ?_⟩
      ·simp only [Instr.mapEntry, Sem.run_bind, run_underlying hu, Result.andThen_ok, Go.MapKept.run_getObj_map hes, K.check _ k k1, g3, g1', Option.map_some, Option.getD_some, hkey, K.stays k k1, Go.MapKept.run_setObj_map _ hes, Sem.run_pure]
       rfl
      ·simp only [BRep]
       have hp := hst.turn (l' := l) j (f := fun e => { e with key := z5 ag2 sh2 k }) (fun _ => rfl)
       refine ⟨ad, _, _, l, had, hnew, hone, ⟨hnd, hp.nd, hp.lt, fun k' st hk' => ?_⟩, fun y => ?_, qm.2 ⟨by simpa using hl, fun i e2 y h1 h2 => ?_⟩⟩
       ·simp only [Option.some.injEq, Prod.mk.injEq] at hk'
        obtain ⟨rfl, rfl⟩ := hk'
        exact ⟨j, { e' with key := z5 ag2 sh2 k }, by rw [Array.getElem?_modify, if_pos rfl, g1']; rfl, g2, rfl⟩
       ·simp only [jl, Bool.or_eq_true, decide_eq_true_eq, hhas]
        exact ⟨fun h => h.elim (fun h => h ▸ List.mem_of_getElem? g2) id, .inr⟩
       ·simp only [Array.getElem?_toList, Array.getElem?_modify] at h1
        by_cases hij : j = i
        ·subst hij
         rw [if_pos rfl, g1'] at h1
         simp only [Option.map_some, Option.some.injEq] at h1
         subst h1
         rw [g2] at h2; cases h2
         refine ⟨k1, (jY k1 K.one).2 rfl, ?_⟩
         simp [zH, Rep]
        ·rw [if_neg hij] at h1
         obtain ⟨a1, a2, a3⟩ := hget i e2 y (by simpa using h1) h2
         refine ⟨a1, zi hext _ _ a2, ?_⟩
         have hne : y ≠ k := fun hy => by
          subst hy
          exact hij ((List.getElem?_inj (List.getElem?_eq_some_iff.1 g2).1 hnd).1 (g2.trans h2.symm))
         simp only [zH, if_neg hne]
         exact zi hext _ _ a3
    ·exact hq.elim
   ·exact hq.elim
  ·exact hq.elim
 ·exact hq.elim
theorem K2 {h : Heap} (hg : Good O w σ) (hh : HRep (Own O σ) w σ h) {t : TypeId} {m s x : AV} {vm vs vx : Value} (hm : Rep (Own O σ) w m σ vm) (hs : Rep (Own O σ) w s σ vs) (hx : Rep (Own O σ) w x σ vx) {Q : Res → Prop} (hq : (zas h m s x).holds Q) :
  ∃ r w' σ', (Instr.entryStore t vm vs vx).run P w = .ok () w' ∧ Q r ∧ Post O w σ h r undef w' σ' := by
 unfold zas at hq
 split at hq
 ·rename_i i ik st
  split at hq
  ·rename_i ag sh has get k st' hb
   split at hq
   ·rename_i hpl
    obtain ⟨rfl, hq⟩ := hq
    have hq := hq rfl
    simp only [Rep] at hm hs
    obtain ⟨e, ad, he, had, rfl⟩ := hm
    have hB := hh.blk i e _ he hb
    simp only [BRep] at hB
    obtain ⟨ad', es, clock, l, had', hes, hone, ⟨hnd, hst⟩, hhas, hE⟩ := hB
    rw [had] at had'; cases had'
    obtain ⟨hl, hget⟩ := qm.1 hE
    have hxv := yf hpl hx
    obtain ⟨j, e', g1', g2, g4⟩ := hst.pend k st rfl
    have g1 : es.toList[j]? = some e' := by simpa using g1'
    obtain ⟨b1, b2, _⟩ := hget j e' k g1 g2
    refine ⟨_, vj w ad.block (.map (es.modify j fun e => { e with val := vx }) clock), σ, ?_, hq, jr hg hh he had hes (fun _ => by simp [Rep]) fun hext hnew => ?_⟩
    ·subst g4
     have hidx : es.findIdx? (fun e => ((e.born : Nat) : Int) == ((e'.born : Nat) : Int)) = some j := by
      have := find_born hst.nd g1
      cases es
      simpa using this
     rw [hs]
     simp only [Instr.entryStore, Sem.run_bind, Go.MapKept.run_getObj_map hes, Result.andThen_ok, asInt, asIntOf, Sem.run_pure, hidx]
     exact Go.MapKept.run_setObj_map _ hes
    ·simp only [BRep]
     refine ⟨ad, _, _, l, had, hnew, hone, ⟨hnd, hst.turn j (fun _ => rfl)⟩, hhas, qm.2 ⟨by simpa using hl, fun i e2 y h1 h2 => ?_⟩⟩
     simp only [Array.getElem?_toList, Array.getElem?_modify] at h1
     by_cases hij : j = i
     ·subst hij
      rw [if_pos rfl, g1'] at h1
      simp only [Option.map_some, Option.some.injEq] at h1
      subst h1
      rw [g2] at h2; cases h2
      refine ⟨b1, zi hext _ _ b2, ?_⟩
      simp only [zH, if_true]
      exact zi hext _ _ hxv
     ·rw [if_neg hij] at h1
      obtain ⟨a1, a2, a3⟩ := hget i e2 y (by simpa using h1) h2
      refine ⟨a1, zi hext _ _ a2, ?_⟩
      have hne : y ≠ k := fun hy => by
       subst hy
       exact hij ((List.getElem?_inj (List.getElem?_eq_some_iff.1 g2).1 hnd).1 (g2.trans h2.symm))
      simp only [zH, if_neg hne]
      exact zi hext _ _ a3
   ·exact hq.elim
  ·exact hq.elim
 ·exact hq.elim
theorem Q5 {h : Heap} (hg : Good O w σ) (hh : HRep (Own O σ) w σ h) {t : TypeId} {Q : Res → Prop} (hq : (Zs P h t).holds Q) :
  ∃ r v w' σ', (Instr.makeMap t none).run P w = .ok v w' ∧ Q r ∧ Post O w σ h r v w' σ' := by
 unfold Zs at hq
 split at hq
 ·rename_i kt et hu
  split at hq
  ·rename_i ag sh hs
   have K := kK (w := w) hs
   refine ⟨_, .map (some w.heap.size), w.alloc (.map #[] 0), σ ++ [⟨some ⟨w.heap.size, 0, none⟩, 0⟩], ?_, hq, ?_⟩
   ·simp [Instr.makeMap, newObj, Sem.run_bind, Sem.run_pure]
    rfl
   ·have hx := qb (O := O) hh (.map #[] 0) 0
    have hd := qp (O := O) hh (.map #[] 0) ⟨some ⟨w.heap.size, 0, none⟩, 0⟩
    have hB : BRep (Own O (σ ++ [⟨some ⟨w.heap.size, 0, none⟩, 0⟩])) (w.alloc (.map #[] 0)) (σ ++ [⟨some ⟨w.heap.size, 0, none⟩, 0⟩]) ⟨some ⟨w.heap.size, 0, none⟩, 0⟩ (.map ag sh Wu Ul) := by
     simp only [BRep]
     exact ⟨_, #[], 0, [], rfl, heap_alloc_new w _, K.one, ⟨List.nodup_nil, by simp, by simp, fun k st h => by cases h⟩, fun k => by simp [Wu], trivial⟩
    refine ⟨?_, hx, ?_, hd, jQ hh hg _ _, fun b _ hb => Go.RowKit.Below.heap_alloc w _ b hb, fun i e ad he had _ => Go.RowKit.Below.heap_alloc w _ _ (hh.lt i e ad he had)⟩
    ·simp only [Rep]
     exact ⟨⟨some ⟨w.heap.size, 0, none⟩, 0⟩, ⟨w.heap.size, 0, none⟩, by rw [← hh.len]; simp, rfl, rfl⟩
    ·simp only [zB, zm, zU, Nat.lt_irrefl, if_false]
     exact jE hh hB
  ·exact hq.elim
 ·exact hq.elim
theorem XI {h h2 : Heap} {i : Nat} {B B2 : Blk} {r : AV} {v : Value} {w' : World} {σ' : List SE} (hlen : h2.length = h.length) (hi : i < h.length) (hsame : ∀ j, j ≠ i → h2[j]? = h[j]?) (hB : ∀ e, BRep (Own O σ') w' σ' e B2 → BRep (Own O σ') w' σ' e B) (hp : Post O w σ h2 ⟨r, [(i, B2)], []⟩ v w' σ') : Post O w σ h ⟨r, [(i, B)], []⟩ v w' σ' := by
 refine ⟨hp.rep, hp.ext, ?_, hp.hold, hp.good, hp.ky, hp.fr⟩
 have := hp.hp
 simp only [zB, zm, zU, hlen, if_pos hi] at this
 have e1 : zm (zB [] h) [(i, B)] = h.set i B := if_pos hi
 show HRep _ _ _ (zm (zB [] h) [(i, B)])
 rw [e1]
 refine ⟨by rw [this.len]; simp [hlen], this.inj, this.lt, fun j e b he hb => ?_⟩
 rw [List.getElem?_set] at hb
 split at hb
 ·rename_i hij
  subst hij
  simp at hb
  obtain ⟨_, rfl⟩ := hb
  exact hB e (this.blk i e B2 he (by rw [List.getElem?_set]; simp [hlen, hi]))
 ·rename_i hij
  refine this.blk j e b he ?_
  rw [List.getElem?_set, if_neg hij, hsame j (fun h => hij h.symm)]
  exact hb
theorem JX {h : Heap} {i : Nat} {B : Blk} (hh : HRep own w σ h) (hB : ∀ e, σ[i]? = some e → BRep own w σ e B) : HRep own w σ (h.set i B) := by
 refine ⟨by simp [hh.len], hh.inj, hh.lt, fun j e b he hb => ?_⟩
 rw [List.getElem?_set] at hb
 split at hb
 ·rename_i hij
  subst hij
  simp at hb
  obtain ⟨_, rfl⟩ := hb
  exact hB e he
 ·exact hh.blk j e b he hb
theorem Vx {e : SE} {n sz : Nat} {g g' : Nat → Nat → AV} (h : ∀ j o, j < n → o < sz → g j o = g' j o) (hb : BRep own w σ e (.arr n sz g)) : BRep own w σ e (.arr n sz g') := by
 simp only [BRep] at hb ⊢
 obtain ⟨h1, h2 | ⟨ad, cs, el, h3, h4, h5, h6⟩⟩ := hb
 ·exact ⟨h1, .inl h2⟩
 ·exact ⟨h1, .inr ⟨ad, cs, el, h3, h4, h5, fun j o hj ho => by
   obtain ⟨c, g1, g2, g3⟩ := h6 j o hj ho
   exact ⟨c, g1, g2, by rw [← h j o hj ho]; exact g3⟩⟩⟩
theorem Kl {h : Heap} (hg : Good O w σ) (hh : HRep (Own O σ) w σ h) {t : TypeId} {i idx N : Nat} {k : IntKind} {f : Nat → Int} {a : AV} {x : Int} {va v : Value} (ha : Rep (Own O σ) w (.eptr i 1 idx 0) σ va) (hb : h[i]? = some (.arrI k N f))
  (hn : zW P t = some 1) (hc : cellsOf a = some [.int k x]) (hr : Rep (Own O σ) w a σ v) :
  ∃ w' σ', (Instr.storeAt t va v).run P w = .ok () w' ∧ Post O w σ h ⟨.undef, [(i, .arrI k N (updI f idx x))], []⟩ undef w' σ' := by
 have hi : i < h.length := (List.getElem?_eq_some_iff.1 hb).1
 obtain ⟨w', σ', h1, h2⟩ := u0 (P := P) (N := N) (g := tgI k f) (k := []) (cv' := [.int k x]) hg (JX (i := i) (B := .arr N 1 (tgI k f)) hh fun e he => kj.1 (hh.blk i e _ he hb)) ha (by simp [hi]) hn (qy hc hr) rfl (by omega) (by rfl) (by simp)
 refine ⟨w', σ', h1, XI (by simp) hi (fun j hj => by rw [List.getElem?_set, if_neg (Ne.symm hj)]) (fun e hB => kj.2 (Vx (fun j o hj ho => ?_) hB)) h2⟩
 have ho : o = 0 := by omega
 subst ho
 simp only [updG, tgI, updI]
 by_cases hji : j = idx
 ·subst hji; simp
 ·rw [if_neg (fun q => hji q.1), if_neg hji]
theorem Kg {h : Heap} (hg : Good O w σ) (hh : HRep (Own O σ) w σ h) {t : TypeId} {i idx N : Nat} {f : Nat → List UInt8} {a : AV} {x : List UInt8} {va v : Value} (ha : Rep (Own O σ) w (.eptr i 1 idx 0) σ va) (hb : h[i]? = some (.arrS N f))
  (hn : zW P t = some 1) (hc : cellsOf a = some [.str x]) (hr : Rep (Own O σ) w a σ v) :
  ∃ w' σ', (Instr.storeAt t va v).run P w = .ok () w' ∧ Post O w σ h ⟨.undef, [(i, .arrS N (updS f idx x))], []⟩ undef w' σ' := by
 have hi : i < h.length := (List.getElem?_eq_some_iff.1 hb).1
 obtain ⟨w', σ', h1, h2⟩ := u0 (P := P) (N := N) (g := tgS f) (k := []) (cv' := [.str x]) hg (JX (i := i) (B := .arr N 1 (tgS f)) hh fun e he => kr.1 (hh.blk i e _ he hb)) ha (by simp [hi]) hn (qy hc hr) rfl (by omega) (by rfl) (by simp)
 refine ⟨w', σ', h1, XI (by simp) hi (fun j hj => by rw [List.getElem?_set, if_neg (Ne.symm hj)]) (fun e hB => kr.2 (Vx (fun j o hj ho => ?_) hB)) h2⟩
 have ho : o = 0 := by omega
 subst ho
 simp only [updG, tgS, updS]
 by_cases hji : j = idx
 ·subst hji; simp
 ·rw [if_neg (fun q => hji q.1), if_neg hji]
end
end Go.Sx
end
