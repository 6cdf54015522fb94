/- Part 3 of the proof. -/
import Derived.Tactics
import Derived.Orders
import Derived.KernelRfl
import Derived.Below
import Derived.Laws.Cells
import Derived.ChangeKeysEq
import Derived.Laws.Strings
import Derived.Laws.BytesString
import Derived.Laws.StructEq
import Derived.Laws.AppendOwn
import Derived.Laws.MakeOwn
import Derived.Deep.AppendSrc
import Derived.RangeFuncNested
import Derived.RangeFuncLeaves
import Derived.RangeFuncCalls
import Derived.OwnWalkIn
import Derived.TacticsInMore
import Derived.MapKept
set_option linter.unusedVariables false
set_option linter.unusedSimpArgs false
set_option linter.unusedSectionVars false

/- The symbolic executor: abstract values, abstract heap, one step of each operation, and the run of a piece of code up to its next loop. -/
section
namespace Go.Sx
universe u
inductive AV where
 | undef
 | bool (b : Bool)
 | int (k : IntKind) (n : Int)
 | str (s : List UInt8)
 | nils
 | sl (n sz : Nat) (get : Nat → Nat → AV)
 | osl (i sz off n : Nat)
 | ptr (i off : Nat)
 | nilp
 | eptr (i sz idx off : Nat)
 | iptr (m : Nat) (get : Nat → AV)
 | gptr (g : Nat)
 | agg (cells : List AV)
 | tup (vs : List AV)
 | fn (f : Nat) (first cap : List AV)
 | nilf
 | opt (t : Nat) (want : Bool) (x : AV)
 | mp (k : IntKind) (ag : Bool) (sz : Nat) (ks : List Int) (has : Int → Bool) (get : Int → Nat → AV)
class Stat where
 z : Nat → Option AV
inductive Blk where
 | dead
 | box (cells : List AV)
 | arr (n sz : Nat) (get : Nat → Nat → AV)
inductive Tree (α : Type) where
 | leaf (a : α)
 | ite (b : Bool) (t e : Tree α)
 | side (p : Prop) (t : Tree α)
 | ex {X : Type} (p : X → Prop) (k : X → Tree α)
 | all {X : Type} (p : X → Prop) (k : X → Tree α)
 | fail
namespace Tree
def bind {α β : Type} : Tree α → (α → Tree β) → Tree β
 | .leaf a, f => f a
 | .ite b t e, f => .ite b (t.bind f) (e.bind f)
 | .side p t, f => .side p (t.bind f)
 | .ex p k, f => .ex p fun n => (k n).bind f
 | .all p k, f => .all p fun n => (k n).bind f
 | .fail, _ => .fail
def holds {α : Type} : Tree α → (α → Prop) → Prop
 | .leaf a, Q => Q a
 | .ite b t e, Q => (b = true → t.holds Q) ∧ (b = false → e.holds Q)
 | .side p t, Q => p ∧ (p → t.holds Q)
 | .ex p k, Q => ∃ n, p n ∧ (k n).holds Q
 | .all p k, Q => (∃ n, p n) ∧ ∀ n, p n → (k n).holds Q
 | .fail, _ => False
def map {α β : Type} (f : α → β) (t : Tree α) : Tree β := t.bind fun a => .leaf (f a)
def chain {α : Type} : Tree α → Option (List Prop × α)
 | .leaf a => some ([], a)
 | .side p t => match t.chain with
  | some (ps, a) => some (p :: ps, a)
  | none => none
 | _ => none
end Tree
abbrev Heap := List Blk
abbrev Spec := List AV → Heap → Tree (AV × Heap)
structure Ctr where
 fresh : Bool
 spec : Spec
 wv : Bool := false
structure St where
 tmps : List AV
 heap : Heap
def lo : IntKind → Int
 | .i8 => -128 | .i16 => -32768 | .i32 => -2147483648 | .i64 => -9223372036854775808
 | _ => 0
def hi : IntKind → Int
 | .i8 => 127 | .i16 => 32767 | .i32 => 2147483647 | .i64 => 9223372036854775807
 | .u8 => 255 | .u16 => 65535 | .u32 => 4294967295 | .u64 => 18446744073709551615
def inR (k : IntKind) (n : Int) : Prop := lo k ≤ n ∧ n ≤ hi k
def zg (g : Nat → Nat → AV) (l : Nat) : Nat → Nat → AV := fun j o => g (l + j) o
def eltG (g : Nat → Nat → AV) (i : Nat) : Nat → AV := fun o => g i o
def atG (g : Nat → AV) (d : Nat) : Nat → AV := fun o => g (d + o)
def updG (g : Nat → Nat → AV) (i d : Nat) (cs : List AV) : Nat → Nat → AV := fun j o => if j = i ∧ d ≤ o ∧ o < d + cs.length then cs.getD (o - d) .undef else g j o
def appG (n : Nat) (g g' : Nat → Nat → AV) : Nat → Nat → AV := fun j o => if j < n then g j o else g' (j - n) o
def zj (sz : Nat) (cs : List AV) : Nat → Nat → AV := fun j o => cs.getD (j * sz + o) .undef
def ke (cs : List AV) : Nat → Nat → AV := fun _ o => cs.getD o .undef
def byteOf : AV → UInt8
 | .int _ n => UInt8.ofNat n.toNat
 | _ => 0
def vP (n : Nat) (g : Nat → Nat → AV) : List UInt8 := (List.range n).map fun j => byteOf (g j 0)
def xQ : Value → AV
 | .bool b => .bool b
 | .int k n => .int k n
 | .string s => .str s.data.toList
 | .slice none 0 0 => .nils
 | .pointer none => .nilp
 | .nilFunc => .nilf
 | _ => .undef
def yu : Value → AV
 | .agg cs => .agg (cs.toList.map xQ)
 | v => xQ v
def cellsOf : AV → Option (List AV)
 | .agg cs => some cs
 | .undef => none
 | .opt _ _ _ => none
 | v => some [v]
def oneA : AV → Bool
 | .undef => false
 | .agg _ => false
 | .tup _ => false
 | .opt _ _ _ => false
 | _ => true
def jd (i : Nat) : AV → AV
 | .osl j sz off n => if i = j then .undef else .osl j sz off n
 | .eptr j sz idx off => if i = j then .undef else .eptr j sz idx off
 | .ptr j off => if i = j then .undef else .ptr j off
 | .agg _ => .undef
 | .tup _ => .undef
 | .fn f a b => match a, b with
  | [], [] => .fn f [] []
  | _, _ => .undef
 | .opt _ _ _ => .undef
 | x => x
def zY (i : Nat) : AV → AV
 | .agg cs => .agg (cs.map (jd i))
 | .tup cs => .tup (cs.map (jd i))
 | x => jd i x
def zcu (i : Nat) : Blk → Blk
 | .box cs => .box (cs.map (zY i))
 | b => b
structure Res where
 val : AV
 eff : List (Nat × Blk) := []
 kill : List Nat := []
def qa (h : Heap) (l : Nat) (b : Blk) : Heap := if l < h.length then h.set l b else h ++ [b]
def zm (h : Heap) : List (Nat × Blk) → Heap
 | [] => h
 | (l, b) :: r => zm (qa h l b) r
def setAt (cs : List AV) (off : Nat) (new : List AV) : List AV := cs.take off ++ new ++ cs.drop (off + new.length)
section
variable (P : Program) (Γ : Nat → Option Ctr)
def zeroCells (t : TypeId) : Option (List AV) := match P.info? t with
 | some i => match i.zero with
  | some v => cellsOf (yu v)
  | none => none
 | none => none
def wK (t : TypeId) : Option Bool := match P.underlying t with
 | some (.struct _) | some (.array _ _) => some true
 | some _ => some false
 | none => none
def qg (t : TypeId) : Option Nat := (P.info? t).map (·.size)
def jW (agg : Bool) (cs : List AV) : Tree AV := if agg then .leaf (.agg cs) else match cs with
 | [c] => .leaf c
 | _ => .fail
def y5 (h : Heap) (t : TypeId) : AV → Tree AV
 | .ptr i off => match h[i]?, wK P t, qg P t with
  | some (.box cells), some a, some n => if off + n ≤ cells.length then jW a ((cells.drop off).take n) else .fail
  | _, _, _ => .fail
 | .eptr i sz idx off => match h[i]?, wK P t, qg P t with
  | some (.arr _ sz' g), some a, some n => if sz = sz' ∧ off + n ≤ sz then jW a ((List.range n).map fun o => g idx (off + o)) else .fail
  | some (.box cells), some a, some n => if idx * sz + off + n ≤ cells.length then jW a ((cells.drop (idx * sz + off)).take n) else .fail
  | _, _, _ => .fail
 | .iptr m g => match wK P t, qg P t with
  | some a, some n => if n ≤ m then jW a ((List.range n).map g) else .fail
  | _, _ => .fail
 | _ => .fail
def jQ (h : Heap) : AV → Option (Nat × Nat × (Nat → Nat → AV))
 | .nils => some (0, 0, fun _ _ => .undef)
 | .sl n sz g => some (n, sz, g)
 | .osl i sz off n => match h[i]? with
  | some (.arr _ sz' g) => if sz = sz' then some (n, sz, zg g off) else none
  | _ => none
 | _ => none
def kh (s : TypeId) (f : Nat) : Option (Nat × TypeId × Nat) := match P.underlying s with
 | some (.struct fields) => match fields[f]? with
  | some fld => match P.info? fld.type with
   | some i => if i.size = 0 then none else some (fld.offset, fld.type, i.size)
   | none => none
  | none => none
 | _ => none
def VS (d : Nat) : AV → Tree AV
 | .ptr i off => .leaf (.ptr i (off + d))
 | .eptr i sz idx off => .leaf (.eptr i sz idx (off + d))
 | .iptr m g => if d ≤ m then .leaf (.iptr (m - d) (atG g d)) else .fail
 | _ => .fail
def W5 (op : BinOp) (k : IntKind) (x y : Int) : Tree AV := match op with
 | .add => .side (inR k (x + y)) (.leaf (.int k (x + y)))
 | .sub => .side (inR k (x - y)) (.leaf (.int k (x - y)))
 | .mul => .side (inR k (x * y)) (.leaf (.int k (x * y)))
 | .quo => .side (y ≠ 0 ∧ inR k (x.tdiv y)) (.leaf (.int k (x.tdiv y)))
 | .rem => .side (y ≠ 0) (.leaf (.int k (x.tmod y)))
 | .eql => .leaf (.bool (decide (x = y)))
 | .neq => .leaf (.bool (!decide (x = y)))
 | .lss => .leaf (.bool (decide (x < y)))
 | .leq => .leaf (.bool (decide (x ≤ y)))
 | .gtr => .leaf (.bool (decide (y < x)))
 | .geq => .leaf (.bool (decide (y ≤ x)))
 | _ => .fail
def WD (op : BinOp) (x y : List UInt8) : Tree AV := match op with
 | .add => .side (x.length + y.length ≤ 9223372036854775807) (.leaf (.str (x ++ y)))
 | .eql => .leaf (.bool (decide (x = y)))
 | .neq => .leaf (.bool (!decide (x = y)))
 | .lss => .leaf (.bool (Op.bytesLess x y))
 | .leq => .leaf (.bool (Op.bytesLess x y || decide (x = y)))
 | .gtr => .leaf (.bool (!(Op.bytesLess x y || decide (x = y))))
 | .geq => .leaf (.bool (!Op.bytesLess x y))
 | _ => .fail
def jr (as bs : List AV) : List Field → Option Bool
 | [] => some true
 | f :: fs => if f.name ≠ "_" then match wK P f.type, P.underlying f.type, as[f.offset]?, bs[f.offset]? with
   | some false, some (.int _), some (.int k x), some (.int k' y) => if k = k' then match jr as bs fs with
     | some r => some (decide (x = y) && r)
     | none => none
    else none
   | some false, some .string, some (.str x), some (.str y) => match jr as bs fs with
    | some r => some (decide (x = y) && r)
    | none => none
   | some false, some .bool, some (.bool x), some (.bool y) => match jr as bs fs with
    | some r => some ((x == y) && r)
    | none => none
   | _, _, _, _ => none
  else jr as bs fs
def yE (op : BinOp) (t : TypeId) (n : Nat) : Tree AV := match P.underlying t with
 | some (.slice _) => match op with
  | .eql => .all (fun b : Bool => 0 < n → b = false) fun b => .leaf (.bool b)
  | .neq => .all (fun b : Bool => 0 < n → b = true) fun b => .leaf (.bool b)
  | _ => .fail
 | _ => .fail
def binX (op : BinOp) (t : TypeId) : AV → AV → Tree AV
 | .sl n _ _, .nils => yE P op t n
 | .osl _ _ _ n, .nils => yE P op t n
 | .int k x, .int k' y => if k = k' then W5 op k x y else .fail
 | .str x, .str y => WD op x y
 | .bool x, .bool y => match P.underlying t, op with
  | some .bool, .eql => .leaf (.bool (x == y))
  | some .bool, .neq => .leaf (.bool (!(x == y)))
  | _, _ => .fail
 | .agg as, .agg bs => match P.underlying t with
  | some (.struct fs) => if P.stoodInHeld t = false ∧ P.eqGuardType P.depth t = false then match jr P as bs fs.toList with
    | some r => match op with
     | .eql => .leaf (.bool r)
     | .neq => .leaf (.bool (!r))
     | _ => .fail
    | none => .fail
   else .fail
  | _ => .fail
 | _, _ => .fail
def xu (n : Nat) : Option AV → Option AV → Tree (Nat × Nat)
 | none, none => .leaf (0, n)
 | some (.int _ l), none => .side (0 ≤ l ∧ l ≤ n) (.leaf (l.toNat, n))
 | none, some (.int _ h) => .side (0 ≤ h ∧ h ≤ n) (.leaf (0, h.toNat))
 | some (.int _ l), some (.int _ h) => .side (0 ≤ l ∧ l ≤ h ∧ h ≤ n) (.leaf (l.toNat, h.toNat))
 | _, _ => .fail
def xN (t : TypeId) (l h : Option AV) : AV → Tree AV
 | .str s => match P.underlying t with
  | some .string => (xu s.length l h).bind fun (l, h) => .leaf (.str ((s.take h).drop l))
  | _ => .fail
 | .nils => match P.underlying t with
  | some (.slice e) => if (qg P e).isSome then (xu 0 l h).bind fun _ => .leaf .nils else .fail
  | _ => .fail
 | .sl n sz g => match P.underlying t with
  | some (.slice e) => if qg P e = some sz then (xu n l h).bind fun (l, h) => .leaf (.sl (h - l) sz (zg g l)) else .fail
  | _ => .fail
 | .osl i sz off n => match P.underlying t with
  | some (.slice e) => if qg P e = some sz then (xu n l h).bind fun (l, h) => .leaf (.osl i sz (off + l) (h - l)) else .fail
  | _ => .fail
 | _ => .fail
def lenX (t : TypeId) : AV → Tree AV
 | .str s => match P.underlying t with
  | some .string => .leaf (.int .i64 s.length)
  | _ => .fail
 | .nils => match P.underlying t with
  | some (.slice _) => .leaf (.int .i64 0)
  | _ => .fail
 | .sl n _ _ => match P.underlying t with
  | some (.slice _) => .leaf (.int .i64 n)
  | _ => .fail
 | .osl _ _ _ n => match P.underlying t with
  | some (.slice _) => .leaf (.int .i64 n)
  | _ => .fail
 | _ => .fail
def w7 (place : Nat → Option (Nat × Nat)) (cells : List AV) : List (Nat × AV) → Option (List AV)
 | [] => some cells
 | (i, v) :: rest => match place i with
  | none => none
  | some (off, size) => match cellsOf v with
   | some cv => if cv.length = size ∧ off + size ≤ cells.length then w7 place (setAt cells off cv) rest else none
   | none => none
def nilX : AV → Tree AV
 | .ptr i o => .leaf (.ptr i o)
 | .iptr m g => .leaf (.iptr m g)
 | .eptr i sz idx o => .leaf (.eptr i sz idx o)
 | .fn f a b => .leaf (.fn f a b)
 | _ => .fail
def unX (op : UnOp) : AV → Tree AV
 | .bool b => match op with
  | .not => .leaf (.bool (!b))
  | _ => .fail
 | .int k n => match op with
  | .neg => .side (inR k (-n)) (.leaf (.int k (-n)))
  | _ => .fail
 | _ => .fail
def Wt (h : Heap) (src t : TypeId) : AV → Tree AV
 | .int _ n => match P.underlying src, P.underlying t with
  | some (.int _), some (.int k) => .side (inR k n) (.leaf (.int k n))
  | _, _ => .fail
 | .str s => match P.underlying src, P.underlying t with
  | some .string, some .string => .leaf (.str s)
  | _, _ => .fail
 | v => match P.underlying src, P.underlying t with
  | some (.slice e), some .string => match P.underlying e, jQ h v with
   | some (.int .u8), some (n, 1, g) => .side (∀ j, j < n → ∃ b : UInt8, g j 0 = .int .u8 b.toNat) (.leaf (.str (vP n g)))
   | _, _ => .fail
  | _, _ => .fail
def ka (t : TypeId) (i : AV) : AV → Tree AV
 | .sl n sz g => match P.underlying t, i with
  | some (.slice e), .int _ i => if qg P e = some sz then .side (0 ≤ i ∧ i < n) (.leaf (.iptr sz (eltG g i.toNat))) else .fail
  | _, _ => .fail
 | .osl b sz off n => match P.underlying t, i with
  | some (.slice e), .int _ i => if qg P e = some sz then .side (0 ≤ i ∧ i < n) (.leaf (.eptr b sz (off + i.toNat) 0)) else .fail
  | _, _ => .fail
 | .ptr b off => match P.underlying t, i with
  | some (.array len e), .int _ i => match qg P e with
   | some sz => .side (0 ≤ i ∧ i < len) (.leaf (.ptr b (off + i.toNat * sz)))
   | none => .fail
  | _, _ => .fail
 | _ => .fail
def Je (t : TypeId) (i : AV) : AV → Tree AV
 | .str s => match P.underlying t, i with
  | some .string, .int _ i => .side (0 ≤ i ∧ i < s.length) (.leaf (.int .u8 ((s.getD i.toNat 0).toNat : Nat)))
  | _, _ => .fail
 | .agg cs => match P.underlying t, i with
  | some (.array len e), .int _ i => match qg P e, wK P e with
   | some sz, some a => .side (0 ≤ i ∧ i < len ∧ i.toNat * sz + sz ≤ cs.length) (jW a ((cs.drop (i.toNat * sz)).take sz))
   | _, _ => .fail
  | _, _ => .fail
 | _ => .fail
def VA (t : TypeId) (f : Nat) : AV → Tree AV
 | .agg cs => match kh P t f with
  | some (o, ft, n) => match wK P ft with
   | some a => if o + n ≤ cs.length then jW a ((cs.drop o).take n) else .fail
   | none => .fail
  | none => .fail
 | _ => .fail
def yX (ag : Bool) (sz : Nat) (get : Nat → AV) : AV := bif ag then .agg ((List.range sz).map get) else get 0
def we (ok : Bool) (v : AV) (b : Bool) : AV := bif ok then .tup [v, .bool b] else v
def WQ (ok ag : Bool) (sz : Nat) (get : Int → Nat → AV) (n : Int) : List Int → Tree AV
 | [] => .fail
 | k :: l => .ite (decide (n = k)) (.leaf (we ok (yX ag sz (get k)) true)) (WQ ok ag sz get n l)
def JH (ok ag : Bool) (sz : Nat) (get : Int → Nat → AV) (n : Int) : List Int → Tree AV
 | [] => .leaf (we ok (yX ag sz (get n)) true)
 | k :: l => WQ ok ag sz get n (k :: l)
def xm (t : TypeId) (ok : Bool) : AV → AV → Tree AV
 | .mp k ag sz ks has get, .int k' n => match P.underlying t with
  | some (.map kt et) => match P.underlying kt, wK P et, (P.info? et).bind (·.zero) with
   | some (.int kk), some a, some z => if k = k' ∧ kk = k ∧ a = ag then .ite (has n) (JH ok ag sz get n ks) (.leaf (we ok (yu z) false)) else .fail
   | _, _, _ => .fail
  | _ => .fail
 | _, _ => .fail
def ug (i : Nat) : AV → Tree AV
 | .tup vs => match vs[i]? with
  | some v => .leaf v
  | none => .fail
 | _ => .fail
def WU (t : TypeId) (parts : List (Nat × AV)) : Tree AV := match P.underlying t with
 | some (.struct fs) => match zeroCells P t with
  | some cs => match w7 (fun i => match fs[i]? with
    | some f => (qg P f.type).map fun n => (f.offset, n)
    | none => none) cs parts with
   | some cs => if fs.all fun f => (qg P f.type).isSome then .leaf (.agg cs) else .fail
   | none => .fail
  | none => .fail
 | some (.array _ e) => match zeroCells P t, qg P e with
  | some cs, some sz => match w7 (fun i => some (i * sz, sz)) cs parts with
   | some cs => .leaf (.agg cs)
   | none => .fail
  | _, _ => .fail
 | _ => .fail
def xj (b : Builtin) : List AV → Tree AV
 | [.int k x, .int k' y] => if k = k' then match b with
   | .max => .leaf (.int k (max x y))
   | .min => .leaf (.int k (min x y))
   | _ => .fail
  else .fail
 | _ => .fail
def valX (ρ : Operand → AV) (h : Heap) (op : Op) : Tree AV := match op with
 | .move x | .assign x => .leaf (ρ x)
 | .build t parts => WU P t (parts.toList.map fun p => (p.1, ρ p.2))
 | .load t a => y5 P h t (ρ a)
 | .nilCheck x => nilX (ρ x)
 | .binOp op t x y _ => binX P op t (ρ x) (ρ y)
 | .unOp op _ x => unX op (ρ x)
 | .convert s t x => Wt P h s t (ρ x)
 | .makeFunc (.func f) first cap => .leaf (.fn f (first.toList.map ρ) (cap.toList.map ρ))
 | .slice t x l h' none => xN P t (l.map ρ) (h'.map ρ) (ρ x)
 | .fieldAddr t x f => match kh P t f with
  | some (o, _, _) => VS o (ρ x)
  | none => .fail
 | .field t x f => VA P t f (ρ x)
 | .indexAddr t x i => ka P t (ρ i) (ρ x)
 | .index t x i => Je P t (ρ i) (ρ x)
 | .extract t i => ug i (ρ t)
 | .lookup t x i ok => xm P t ok (ρ x) (ρ i)
 | .call c => match c.callee with
  | .builtin .len => match c.argTypes.toList, c.args.toList with
   | [t], [x] => lenX P t (ρ x)
   | _, _ => .fail
  | .builtin .max => xj .max (c.args.toList.map ρ)
  | .builtin .min => xj .min (c.args.toList.map ρ)
  | _ => .fail
 | _ => .fail
def qY : Nat := 140737488355328
def frz1 (h : Heap) : AV → Option (AV × List Nat)
 | .osl i sz off n => match jQ h (.osl i sz off n) with
  | some (n, sz, g) => some (.sl n sz g, [i])
  | none => none
 | .ptr _ _ => none
 | .eptr _ _ _ _ => none
 | .agg _ => none
 | .tup _ => none
 | .fn f [] [] => some (.fn f [] [], [])
 | .fn _ _ _ => none
 | .opt _ _ _ => none
 | .undef => none
 | x => some (x, [])
def frzL (h : Heap) : List AV → Option (List AV × List Nat)
 | [] => some ([], [])
 | a :: l => match frz1 h a, frzL h l with
  | some (a, i), some (l, k) => some (a :: l, i ++ k)
  | _, _ => none
def frz (h : Heap) : AV → Option (AV × List Nat)
 | .agg cs => match frzL h cs with
  | some (cs, k) => some (.agg cs, k)
  | none => none
 | .tup cs => match frzL h cs with
  | some (cs, k) => some (.tup cs, k)
  | none => none
 | x => frz1 h x
def kn (k : List Nat) : List (Nat × Blk) := k.map fun i => (i, .dead)
def Vs (h : Heap) (t : TypeId) (v : AV) : AV → Tree Res
 | .ptr i off => match h[i]?, qg P t, cellsOf v with
  | some (.box cells), some n, some cv => if cv.length = n ∧ off + n ≤ cells.length ∧ cv.all oneA = true then .leaf ⟨.undef, [(i, .box (setAt cells off cv))], []⟩ else .fail
  | _, _, _ => .fail
 | .eptr i sz idx off => match h[i]?, qg P t, cellsOf v with
  | some (.arr n' sz' g), some n, some cv => if sz = sz' ∧ cv.length = n ∧ off + n ≤ sz then match frzL h cv with
    | some (cv, k) => if k.contains i then .fail else .leaf ⟨.undef, (i, .arr n' sz' (updG g idx off cv)) :: kn k, k⟩
    | none => .fail
   else .fail
  | _, _, _ => .fail
 | _ => .fail
def Jt (sz : Nat) (h : Heap) : AV → Option (Nat × (Nat → Nat → AV))
 | .nils => some (0, fun _ _ => .undef)
 | x => match jQ h x with
  | some (n, sz', g) => if sz' = sz then some (n, g) else none
  | none => none
def QK (h : Heap) (t tx : TypeId) (s x : AV) : Tree Res := match P.underlying t, P.underlying tx with
 | some (.slice e), some (.slice _) => match P.info? e with
  | some i => if i.bytes = 0 ∨ (zeroCells P e).map List.length ≠ some i.size then .fail else match Jt i.size h x, s with
   | some (n2, g2), .nils => .side (n2 * i.bytes ≤ qY) (.leaf ⟨.osl h.length i.size 0 n2, [(h.length, .arr n2 i.size g2)], []⟩)
   | some (n2, g2), .osl b sz off n => match h[b]? with
    | some (.arr n' sz' g) => if sz = i.size ∧ sz' = i.size then
      .side (off = 0 ∧ n ≤ n' ∧ (n + n2) * i.bytes ≤ qY) (.leaf ⟨.osl b i.size 0 (n + n2), [(b, .arr (n + n2) i.size (appG n g g2))], [b]⟩)
     else .fail
    | _ => .fail
   | _, _ => .fail
  | none => .fail
 | _, _ => .fail
def Wp : AV → List Nat
 | .osl i _ _ _ => [i]
 | .ptr i _ => [i]
 | .eptr i _ _ _ => [i]
 | _ => []
def Wc : AV → List Nat
 | .agg cs => cs.flatMap Wp
 | .tup cs => cs.flatMap Wp
 | .fn _ a b => a.flatMap Wp ++ b.flatMap Wp
 | x => Wp x
def Ym : AV → List Nat
 | .tup cs => cs.flatMap Wc
 | .fn _ a b => a.flatMap Wc ++ b.flatMap Wc
 | x => Wc x
def zf2 : Blk → List Nat
 | .box cs => cs.flatMap Wc
 | _ => []
def ren0 (f : Nat → Option Nat) : AV → AV
 | .osl i sz off n => match f i with
  | some j => .osl j sz off n
  | none => .undef
 | .ptr i off => match f i with
  | some j => .ptr j off
  | none => .undef
 | .eptr i sz idx off => match f i with
  | some j => .eptr j sz idx off
  | none => .undef
 | .agg _ => .undef
 | .tup _ => .undef
 | .opt _ _ _ => .undef
 | .fn g a b => match a, b with
  | [], [] => .fn g [] []
  | _, _ => .undef
 | x => x
def ren1 (f : Nat → Option Nat) : AV → AV
 | .agg cs => .agg (cs.map (ren0 f))
 | .fn g a b => .fn g (a.map (ren0 f)) (b.map (ren0 f))
 | x => ren0 f x
def ren2 (f : Nat → Option Nat) : AV → AV
 | .tup cs => .tup (cs.map (ren1 f))
 | .fn g a b => .fn g (a.map (ren1 f)) (b.map (ren1 f))
 | x => ren1 f x
def renB (f : Nat → Option Nat) : Blk → Blk
 | .box cs => .box (cs.map (ren1 f))
 | b => b
def z5 : List Nat → Nat → Option Nat
 | [], _ => none
 | x :: l, i => if x = i then some 0 else (z5 l i).map (· + 1)
def jS (L : List Nat) (d : Nat) (j : Nat) : Option Nat := if j < L.length then L[j]? else some (d + (j - L.length))
def wG : List Nat → Bool
 | [] => true
 | i :: l => !l.contains i && wG l
def reach (h : Heap) : Nat → List Nat → List Nat → List Nat
 | 0, _, acc => acc
 | _ + 1, [], acc => acc
 | n + 1, i :: t, acc => if acc.contains i then reach h n t acc else reach h n ((match h[i]? with
  | some b => zf2 b
  | none => []) ++ t) (acc ++ [i])
def jT : List Nat → Nat → List Blk → List (Nat × Blk)
 | [], d, b :: l => (d, b) :: jT [] (d + 1) l
 | i :: L, d, b :: l => (i, b) :: jT L d l
 | _, _, [] => []
def zcm (h : Heap) (c : Ctr) (args : List AV) (L : List Nat) : Tree Res :=
 if (L.all fun i => decide (i < h.length)) && wG L then
  (c.spec (args.map (ren2 (z5 L))) (L.map fun i => renB (z5 L) (h.getD i .dead))).bind fun r =>
   if L.length ≤ r.2.length then .leaf ⟨ren2 (jS L h.length) r.1, jT L h.length (r.2.map (renB (jS L h.length))), bif c.wv then L else []⟩ else .fail
 else .fail
def Ux (h : Heap) (f : Nat) (args : List AV) : Tree Res := match Γ f with
 | some c => match c.fresh with
  | true => match args.mapM fun a => frz h a with
   | some l => (c.spec (l.map (·.1)) []).bind fun r => .leaf ⟨ren2 (jS [] h.length) r.1, jT [] h.length (r.2.map (renB (jS [] h.length))), []⟩
   | none => .fail
  | false => zcm h c args (reach h 60 (args.flatMap Ym) [])
 | none => .fail
def zeu : AV → Bool
 | .osl _ _ _ _ => true
 | _ => false
def opX (ρ : Operand → AV) (h : Heap) (op : Op) : Tree Res := match op with
 | .alloc t => match zeroCells P t with
  | some cs => .leaf ⟨.ptr h.length 0, [(h.length, .box cs)], []⟩
  | none => .fail
 | .box _ x => match cellsOf (ρ x) with
  | some cs => .leaf ⟨.ptr h.length 0, [(h.length, .box cs)], []⟩
  | none => .fail
 | .buildSlice t len parts => match P.underlying t with
  | some (.slice e) => match zeroCells P e, qg P e with
   | some cs, some sz => if len * sz ≤ 16777216 ∧ cs.length = sz then match w7 (fun i => some (i * sz, sz)) (List.replicate len cs).flatten (parts.toList.map fun p => (p.1, ρ p.2)) with
    | some cs => bif cs.any zeu then .leaf ⟨.osl h.length sz 0 len, [(h.length, .box cs)], []⟩ else match frzL h cs with
     | some (cs, k) => .leaf ⟨.osl h.length sz 0 len, (h.length, .arr len sz (zj sz cs)) :: kn k, k⟩
     | none => .fail
    | none => .fail
    else .fail
   | _, _ => .fail
  | _ => .fail
 | .store t a v => Vs P h t (ρ v) (ρ a)
 | .makeSlice t l c => match P.underlying t, ρ l, ρ c with
  | some (.slice e), .int _ l, .int _ c => match P.info? e, zeroCells P e with
   | some i, some z => if z.length = i.size ∧ z.all oneA = true then .side (0 ≤ l ∧ l ≤ c ∧ inR .i64 c ∧ c.toNat * i.bytes ≤ qY) (.leaf ⟨.osl h.length i.size 0 l.toNat, [(h.length, .arr l.toNat i.size (ke z))], []⟩) else .fail
   | _, _ => .fail
  | _, _, _ => .fail
 | .call c => match c.callee with
  | .builtin .append => match c.argTypes.toList, c.args.toList with
   | [t, tx], [s, x] => QK P h t tx (ρ s) (ρ x)
   | _, _ => .fail
  | .builtin _ => (valX P ρ h (.call c)).bind fun v => .leaf ⟨v, [], []⟩
  | .value f => match ρ f with
   | .fn g first cap => Ux Γ h g (first ++ c.args.toList.map ρ ++ cap)
   | _ => .fail
  | _ => .fail
 | op => (valX P ρ h op).bind fun v => .leaf ⟨v, [], []⟩
def XD (ρ' : Bool → AV) : AV → Tree AV
 | .bool c => match ρ' true, ρ' false with
  | .bool x, .bool y => .leaf (.bool (bif c then x else y))
  | _, _ => .fail
 | _ => .fail
variable [Stat]
def see (K : List (Nat × Bool)) : AV → AV
 | .opt t want x => if K.contains (t, want) then x else .undef
 | x => x
def zE (st : St) (K : List (Nat × Bool)) : Operand → AV
 | .tmp t => see K (st.tmps.getD t .undef)
 | .const v => yu v
 | .func f => .fn f [] []
 | .global g => match Stat.z g with
  | some a => .iptr 1 fun _ => a
  | none => .gptr g
def zO (t : Nat) : AV → AV
 | .opt u want x => if u = t then .undef else .opt u want x
 | x => x
def wQ : List Nat → List AV → List AV
 | [], ts => ts
 | i :: k, ts => wQ k (ts.map (zY i))
def zL : List Nat → Heap → Heap
 | [], h => h
 | i :: k, h => zL k (h.map (zcu i))
def putX (st : St) (dst : Option Nat) (r : Res) : St :=
 match dst with
 | some d => ⟨((wQ r.kill st.tmps).map (zO d)).set d r.val, zm (zL r.kill st.heap) r.eff⟩
 | none => ⟨wQ r.kill st.tmps, zm (zL r.kill st.heap) r.eff⟩
def q9 (tmps : List AV) : Nat → Nat → Bool → List (Nat × Bool)
 | 0, t, want => [(t, want)]
 | d + 1, t, want => (t, want) :: match tmps.getD t .undef with
  | .opt u w _ => q9 tmps d u w
  | _ => []
def jt (tmps : List AV) : Nat → Nat → Bool → Option Prop
 | 0, _, _ => none
 | d + 1, t, want => match tmps.getD t .undef with
  | .bool b => some (b = want)
  | .opt u w (.bool b) => match jt tmps d u w with
   | some p => some (p ∧ b = want)
   | none => none
  | _ => none
def pinX {α : Type} (pin : Nat) (r : Res) (t : Tree α) : Tree α := match r.kill with
 | [] => t
 | k => if k.all fun i => decide (pin ≤ i) then t else .fail
def UY (st : St) (K : List (Nat × Bool)) (c a b : Operand) : Tree AV := match c with
 | .tmp u => XD (fun w => match w with | true => zE st ((u, true) :: K) a | false => zE st ((u, false) :: K) b) (zE st K c)
 | _ => .fail
def opV (st : St) (K : List (Nat × Bool)) (op : Op) : Tree Res := match op with
 | .pick c a b => (UY st K c a b).bind fun v => .leaf ⟨v, [], []⟩
 | op => opX P Γ (zE st K) st.heap op
def vj (q : Prop) (t : Nat) (want : Bool) : Tree Res → Tree Res
 | .leaf ⟨v, [], []⟩ => .leaf ⟨.opt t want v, [], []⟩
 | .leaf _ => .fail
 | .ite b x y => .ite b (vj q t want x) (vj q t want y)
 | .side p x => .side (q → p) (vj q t want x)
 | .ex p k => .ex (fun x => q → p x) fun x => vj q t want (k x)
 | .all p k => .all (fun x => q → p x) fun x => vj q t want (k x)
 | .fail => .fail
def vY (tmps : List AV) : Nat → Nat → Bool → Option Bool
 | 0, _, _ => none
 | d + 1, t, want => match tmps.getD t .undef with
  | .bool b => some (b == want)
  | .opt u w (.bool b) => match vY tmps d u w with
   | some g => some (g && (b == want))
   | none => none
  | _ => none
def vK (ρ : Operand → AV) (h : Heap) : Op → Bool
 | .call c => match c.callee with
  | .value f => match ρ f with
   | .fn g first cap => match Γ g with
    | some ctr => !ctr.fresh && !(reach h 60 ((first ++ c.args.toList.map ρ ++ cap).flatMap Ym) []).isEmpty
    | none => false
   | _ => false
  | _ => false
 | _ => false
def UG (t : TypeId) : AV := match P.info? t with
 | some i => match i.zero with
  | some v => yu v
  | none => .undef
 | none => .undef
def Qy (st : St) (t : Nat) (want : Bool) (o : Oper) : Tree Res := match vY st.tmps 4 t want, o.dst with
 | some g, some d => if d ≠ t then .ite g ((opV P Γ st (q9 st.tmps 4 t want) o.op).bind fun r => .leaf ⟨see [] r.val, r.eff, r.kill⟩) (.leaf ⟨.opt t want (UG P o.type), [], []⟩) else .fail
 | _, _ => .fail
def qI (ops : Array Oper) (st : St) (o : Oper) : Tree Res := match o.guard with
 | none => (opV P Γ st [] o.op).bind fun r => .leaf ⟨see [] r.val, r.eff, r.kill⟩
 | some (j, want) => match (ops[j]?).bind (·.dst) with
  | none => .fail
  | some t => match vK Γ (zE st (q9 st.tmps 4 t want)) st.heap o.op with
   | true => Qy P Γ st t want o
   | false => match jt st.tmps 4 t want, o.dst with
    | some q, some d => if d ≠ t then vj q t want (opV P Γ st (q9 st.tmps 4 t want) o.op) else .fail
    | _, _ => .fail
def Ys (pin : Nat) (ops : Array Oper) (st : St) (o : Oper) : Tree St := (qI P Γ ops st o).bind fun r => pinX pin r (.leaf (putX st o.dst r))
def opsX (pin : Nat) (ops : Array Oper) : List Oper → St → Tree St
 | [], st => .leaf st
 | o :: rest, st => (Ys P Γ pin ops st o).bind (opsX pin ops rest)
def jF (o : Oper) : List Nat := o.after.toList.filterMap fun e => if Region.binds .any e then some e.on else none
def Wo (ops : Array Oper) (L : List Nat) (i : Nat) : Bool := !L.contains i && match ops[i]? with
 | some o => (jF o).all fun k => L.contains k
 | none => false
def v8 (ops : Array Oper) (L : List Nat) : List Nat := (List.range ops.size).filter (Wo ops L)
def ancs (ops : Array Oper) : Nat → List Nat → List Nat → List Nat
 | 0, _, acc => acc
 | _ + 1, [], acc => acc
 | n + 1, i :: t, acc => if acc.contains i then ancs ops n t acc else ancs ops n ((match ops[i]? with
  | some o => jF o
  | none => []) ++ t) (i :: acc)
def jx (ops : Array Oper) (o : Oper) : List Nat := ancs ops 300 (jF o) []
def UC (o : Oper) : List Nat := o.op.operands.toList.filterMap fun | .tmp t => some t | _ => none
def YN : AV → List Nat
 | .opt u _ _ => [u]
 | _ => []
def ja (tmps : List AV) : Nat → Nat → List Nat
 | 0, t => [t]
 | n + 1, t => t :: match tmps.getD t .undef with
  | .opt u _ _ => ja tmps n u
  | _ => []
def q7 (ops : Array Oper) (tmps : List AV) (o : Oper) : List Nat := UC o ++ match o.guard with
 | some (j, _) => match (ops[j]?).bind (·.dst) with
  | some t => ja tmps 4 t
  | none => []
 | none => []
def zG (ops : Array Oper) (tmps : List AV) (o : Oper) : List Nat := q7 ops tmps o ++ (q7 ops tmps o).flatMap fun t => YN (tmps.getD t .undef)
def zX (ρ : Operand → AV) : Op → Option (List Nat)
 | .load _ a => match ρ a with
  | .ptr i _ => some [i]
  | .eptr i _ _ _ => some [i]
  | .iptr _ _ => some []
  | _ => none
 | .convert _ _ x => match ρ x with
  | .int _ _ => some []
  | .str _ => some []
  | _ => none
 | .move _ | .assign _ | .build _ _ | .nilCheck _ | .binOp _ _ _ _ _ | .unOp _ _ _ | .makeFunc _ _ _ | .slice _ _ _ _ _ | .fieldAddr _ _ _ | .field _ _ _ | .indexAddr _ _ _ | .index _ _ _ | .extract _ _ | .pick _ _ _ => some []
 | .call c => match c.callee with
  | .builtin .len => some []
  | .builtin .max => some []
  | .builtin .min => some []
  | _ => none
 | _ => none
def vy (ops : Array Oper) (st : St) (o : Oper) : List (Nat × Bool) := match o.guard with
 | some (j, want) => match (ops[j]?).bind (·.dst) with
  | some t => q9 st.tmps 4 t want
  | none => []
 | none => []
structure Ent where
 k : Nat
 d : Nat
 looks : List Nat
 labs : List Nat
 x : AV
def Yg (ops : Array Oper) (st : St) (i : Nat) : Option Ent := match ops[i]? with
 | some o => match o.dst, zX (zE st (vy ops st o)) o.op with
  | some d, some ls => if (zG ops st.tmps o).contains d || !(ls.all fun i => decide (i < st.heap.length)) then none else match (qI P Γ ops st o).chain with
   | some (_, ⟨x, [], []⟩) => some ⟨i, d, zG ops st.tmps o, ls, x⟩
   | _ => none
  | _, _ => none
 | none => none
def jK (A : List Nat) (dst : Option Nat) (looks : List Nat) (quiet : Bool) (e : Ent) : Bool :=
 (A.contains e.k && (!quiet || match dst with
  | some d => !e.looks.contains d && !(d == e.d)
  | none => true)) ||
 ((match dst with
  | some d => !e.looks.contains d && !(d == e.d)
  | none => true) && !looks.contains e.d)
def x5 (K : List Nat) : AV → Bool
 | .osl i _ _ _ => !K.contains i
 | .eptr i _ _ _ => !K.contains i
 | .ptr i _ => !K.contains i
 | .agg _ => false
 | .tup _ => false
 | .fn _ a b => a.isEmpty && b.isEmpty
 | .opt _ _ _ => false
 | _ => true
def Qd (K : List Nat) : AV → Bool
 | .agg cs => cs.all (x5 K)
 | .tup cs => cs.all (x5 K)
 | x => x5 K x
def Yo (K : List Nat) : Blk → Bool
 | .box cs => cs.all (Qd K)
 | _ => true
def effK (A : List Nat) (st : St) (r : Res) (e : Ent) : Bool := A.contains e.k || (r.kill.isEmpty || (Qd r.kill e.x && (e.looks.all (fun t => Qd r.kill (st.tmps.getD t .undef)) && e.labs.all fun i => Yo r.kill (st.heap.getD i .dead))))
def effE (A : List Nat) (r : Res) (e : Ent) : Bool := A.contains e.k || r.eff.all fun p => !e.labs.contains p.1
def QT : AV → AV → Option Prop
 | .str s, .str t => some (s = t)
 | .int k n, .int k' n' => if k = k' then some (n = n') else none
 | .bool a, .bool b => some (a = b)
 | .ptr i o, .ptr j q => if i = j ∧ o = q then some True else none
 | .eptr i z x o, .eptr j y x' q => if i = j ∧ z = y ∧ o = q then some (x = x') else none
 | .fn f [] [], .fn g [] [] => some (f = g)
 | .nils, .nils => some True
 | .nilp, .nilp => some True
 | .nilf, .nilf => some True
 | .sl n z g, .sl m y h => some (n = m ∧ z = y ∧ g = h)
 | .osl i z o n, .osl j y q m => if i = j ∧ z = y then some (o = q ∧ n = m) else none
 | _, _ => none
def yi {α : Type} (ops : Array Oper) (st : St) : List Ent → Tree α → Tree α
 | [], t => t
 | e :: l, t => match ops[e.k]? with
  | some o => (qI P Γ ops st o).bind fun r => match r with
   | ⟨x, [], []⟩ => match QT x e.x with
    | some p => .side p (yi ops st l t)
    | none => .fail
   | _ => .fail
  | none => .fail
def zd4 (ops : Array Oper) (st : St) (res : List Ent) (i : Nat) : Option Ent := match Yg P Γ ops st i with
 | some e => match ops[e.k]? with
  | some o => if res.all (jK (jx ops o) o.dst (zG ops st.tmps o) true) then some e else none
  | none => none
 | none => none
def VN {α : Type} : List (Tree α) → Tree α
 | [] => .fail
 | [t] => t
 | t :: l => .all (fun _ : Bool => True) fun b => .ite b t (VN l)
def anyX (pin : Nat) (ops : Array Oper) : Nat → List Nat → List Ent → St → Tree St
 | 0, _, _, _ => .fail
 | n + 1, L, res, st => match v8 ops L with
  | [] => .leaf st
  | i0 :: rs => match (i0 :: rs).findSome? (zd4 P Γ ops st res) with
   | some e => match ops[e.k]? with
    | some o => if res.all (jK (jx ops o) o.dst (zG ops st.tmps o) true) && (i0 :: rs).contains e.k then
      (qI P Γ ops st o).bind fun r => anyX pin ops n (e.k :: L) (e :: res) (putX st o.dst r)
     else .fail
    | none => .fail
   | none => VN ((i0 :: rs).map fun i => match ops[i]? with
    | some o => if res.all (jK (jx ops o) o.dst (zG ops st.tmps o) false) then
      (qI P Γ ops st o).bind fun r => if res.all (effK (jx ops o) st r) then pinX pin r (yi P Γ ops (putX st o.dst r) (res.filter fun e => !effE (jx ops o) r e) (anyX pin ops n (i :: L) res (putX st o.dst r))) else .fail
     else .fail
    | none => .fail)
def xb (st : St) : St := ⟨st.tmps.map fun | .opt _ _ _ => .undef | x => x, st.heap⟩
def QZ {α : Type u} : AV → (AV → α) → α
 | .undef, f => f .undef
 | .bool b, f => f (.bool b)
 | .int k n, f => f (.int k n)
 | .str s, f => f (.str s)
 | .nils, f => f .nils
 | .sl n sz g, f => f (.sl n sz g)
 | .osl i sz off n, f => f (.osl i sz off n)
 | .ptr i off, f => f (.ptr i off)
 | .nilp, f => f .nilp
 | .eptr i sz idx off, f => f (.eptr i sz idx off)
 | .iptr m g, f => f (.iptr m g)
 | .gptr g, f => f (.gptr g)
 | .agg cs, f => f (.agg cs)
 | .tup cs, f => f (.tup cs)
 | .fn g a b, f => f (.fn g a b)
 | .nilf, f => f .nilf
 | .opt t w x, f => f (.opt t w x)
 | .mp k ag sz ks has get, f => f (.mp k ag sz ks has get)
def vC {α : Type u} : List AV → (List AV → α) → α
 | [], f => f []
 | a :: l, f => QZ a fun a => vC l fun l => f (a :: l)
def Vb {α : Type u} : AV → (AV → α) → α
 | .agg cs, f => vC cs fun cs => f (.agg cs)
 | .tup cs, f => vC cs fun cs => f (.tup cs)
 | .fn g a b, f => vC a fun a => vC b fun b => f (.fn g a b)
 | x, f => QZ x f
def Zl {α : Type u} : List AV → (List AV → α) → α
 | [], f => f []
 | a :: l, f => Vb a fun a => Zl l fun l => f (a :: l)
def vV {α : Type u} : Heap → (Heap → α) → α
 | [], f => f []
 | .dead :: l, f => vV l fun l => f (.dead :: l)
 | .box cs :: l, f => Zl cs fun cs => vV l fun l => f (.box cs :: l)
 | .arr n sz g :: l, f => vV l fun l => f (.arr n sz g :: l)
def force {α : Type u} (st : St) (f : St → α) : α := Zl st.tmps fun t => vV st.heap fun h => f ⟨t, h⟩
theorem yM {α : Type u} (a : AV) (f : AV → α) : QZ a f = f a := by cases a <;> rfl
theorem uJ {α : Type u} : ∀ (l : List AV) (f : List AV → α), vC l f = f l
 | [], _ => rfl
 | a :: l, f => by simp only [vC, yM, uJ l]
theorem Xl {α : Type u} (a : AV) (f : AV → α) : Vb a f = f a := by cases a <;> simp only [Vb, yM, uJ]
theorem xT {α : Type u} : ∀ (l : List AV) (f : List AV → α), Zl l f = f l
 | [], _ => rfl
 | a :: l, f => by simp only [Zl, Xl, xT l]
theorem kA {α : Type u} : ∀ (l : Heap) (f : Heap → α), vV l f = f l
 | [], _ => rfl
 | .dead :: l, f => by simp only [vV, kA l]
 | .box cs :: l, f => by simp only [vV, xT, kA l]
 | .arr n sz g :: l, f => by simp only [vV, kA l]
theorem force_eq {α : Type u} (st : St) (f : St → α) : force st f = f st := by simp only [force, xT, kA]
inductive Item where
 | code (c : Code)
 | inBlock (id : Nat)
 | inLoop
inductive Leaf where
 | ret (st : St)
 | back (d : Nat) (st : St)
 | loop (c : Code) (k : List Item) (st : St)
 | range (c : Code) (k : List Item) (st : St)
def wa : List Item → Nat
 | [] => 0
 | .inLoop :: k => wa k + 1
 | _ :: k => wa k
def exitTo (id : Nat) : List Item → Option (List Item)
 | [] => none
 | .inBlock i :: k => if i = id then some k else exitTo id k
 | _ :: k => exitTo id k
def run (pin : Nat) : Nat → List Item → St → Tree Leaf
 | 0, _, _ => .fail
 | _ + 1, [], st => .leaf (.ret st)
 | n + 1, .inBlock _ :: k, st => run pin n k st
 | _ + 1, .inLoop :: k, st => .leaf (.back (wa k) st)
 | n + 1, .code c :: k, st => match c with
  | .skip => run pin n k st
  | .seq a b => run pin n (.code a :: .code b :: k) st
  | .region _ ops false => (opsX P Γ pin ops ops.toList st).bind fun st' => force (xb st') (run pin n k)
  | .region _ ops true => (anyX P Γ pin ops (2 * ops.size + 2) [] [] st).bind fun st' => force (xb st') (run pin n k)
  | .cond (.tmp t) x y => match st.tmps.getD t .undef with
   | .bool b => .ite b (run pin n (.code x :: k) st) (run pin n (.code y :: k) st)
   | _ => .fail
  | .block id c => run pin n (.code c :: .inBlock id :: k) st
  | .loop c => .leaf (.loop c k st)
  | .rangeFunc g ps x y => .leaf (.range (.rangeFunc g ps x y) k st)
  | .exit id => match exitTo id k with
   | some k' => run pin n k' st
   | none => .fail
  | .ret => .leaf (.ret st)
  | _ => .fail
end
end Go.Sx
end

/- What an abstract value says of a value in a world; steps of the world; what is kept. -/
section
namespace Go.Sx
variable [Stat]
open Go.RowKit (Below)
structure SE where
 ad : Option Addr
 n : Nat
def WK (w : World) (b : Nat) (g : Nat) : Prop := (Stat.z g).isSome = true ∧ w.cell? ⟨g, 0, none⟩ = some (.map (some b))
mutual
def Rep (own : Nat → Prop) (w : World) : AV → List SE → Value → Prop
 | .undef, _, _ => True
 | .bool b, _, v => v = .bool b
 | .int k n, _, v => v = .int k n
 | .str s, _, v => v = .string ⟨s.toArray⟩
 | .nils, _, v => v = .slice none 0 0
 | .sl n sz get, _, v => ∃ a cap, v = .slice a n cap ∧ n ≤ cap ∧ (n = 0 ∨ ∃ ad, a = some ad ∧ ad.spot = none ∧
   ∀ j o, j < n → o < sz → ¬ own ad.block ∧ ∃ c, w.cell? ⟨ad.block, ad.off + (j * sz + o), none⟩ = some c ∧ c.oneCell' = true ∧ Rep own w (get j o) [] c)
 | .osl i sz off n, σ, v => ∃ e, σ[i]? = some e ∧ off + n ≤ e.n ∧ ∃ a cap, v = .slice a n cap ∧ n ≤ cap ∧
   (cap = 0 ∨ ∃ ad, e.ad = some ad ∧ a = some ⟨ad.block, ad.off + off * sz, none⟩ ∧
    ∃ cs el, w.heap[ad.block]? = some (.cells cs el (0, 0)) ∧ ad.off + (off + cap) * sz ≤ cs.size)
 | .ptr i off, σ, v => ∃ e ad, σ[i]? = some e ∧ e.ad = some ad ∧ v = .pointer (some ⟨ad.block, ad.off + off, none⟩)
 | .nilp, _, v => v = .pointer none
 | .eptr i sz idx off, σ, v => ∃ e ad, σ[i]? = some e ∧ e.ad = some ad ∧ idx < e.n ∧ v = .pointer (some ⟨ad.block, ad.off + (idx * sz + off), none⟩)
 | .iptr m get, _, v => ∃ ad, v = .pointer (some ad) ∧ ad.spot = none ∧
   ∀ o, o < m → ¬ own ad.block ∧ ∃ c, w.cell? ⟨ad.block, ad.off + o, none⟩ = some c ∧ Rep own w (get o) [] c
 | .gptr g, _, v => v = .pointer (some ⟨g, 0, none⟩)
 | .agg cs, σ, v => ∃ vs : List Value, v = .agg vs.toArray ∧ RepL own w cs σ vs
 | .tup cs, σ, v => ∃ vs : List Value, v = .tuple vs.toArray ∧ RepL own w cs σ vs
 | .fn f a b, σ, v => ∃ va vb : List Value, v = .func (.func f) va.toArray vb.toArray ∧ RepL own w a σ va ∧ RepL own w b σ vb
 | .nilf, _, v => v = .nilFunc
 | .opt _ _ _, _, _ => True
 | .mp k ag sz ks has get, _, v => ∃ b es clock, v = .map (some b) ∧ ¬ own b ∧ (∃ g, ¬ own g ∧ WK w b g) ∧ w.heap[b]? = some (.map es clock) ∧
   ∀ n, (has n = false → Instr.findNow (.int k) (.int k n) es.toList 0 = some none) ∧
    (has n = true → ∃ i x, Instr.findNow (.int k) (.int k n) es.toList 0 = some (some (i, x)) ∧
     match ag with
     | true => ∃ vs : List Value, x = .agg vs.toArray ∧ vs.length = sz ∧ ∀ o, o < sz → ∃ c, vs[o]? = some c ∧ Rep own w (get n o) [] c
     | false => Rep own w (get n 0) [] x)
def RepL (own : Nat → Prop) (w : World) : List AV → List SE → List Value → Prop
 | [], _, vs => vs = []
 | a :: l, σ, vs => ∃ v r, vs = v :: r ∧ Rep own w a σ v ∧ RepL own w l σ r
end
def Own (O : Nat → Prop) (σ : List SE) (b : Nat) : Prop := O b ∨ ∃ e ∈ σ, ∃ ad, e.ad = some ad ∧ ad.block = b
structure w9 (own : Nat → Prop) (w : World) : Prop where
 at_ : ∀ (g : Nat) (a : AV), Stat.z g = some a → ¬ own g ∧ ∃ c, w.cell? ⟨g, 0, none⟩ = some c ∧ Rep own w a [] c ∧ ∀ b, c = .map (some b) → b < w.heap.size
structure Good (O : Nat → Prop) (w : World) (σ : List SE) : Prop where
 old : ∀ b, O b → b < w.heap.size
 dis : ∀ (i : Nat) (e : SE) (ad : Addr), σ[i]? = some e → e.ad = some ad → ¬ O ad.block
 stat : w9 (Own O σ) w
def BRep (own : Nat → Prop) (w : World) (σ : List SE) (e : SE) : Blk → Prop
 | .dead => True
 | .box cells => ∃ ad vs el, e.ad = some ad ∧ ad.off = 0 ∧ w.heap[ad.block]? = some (.cells (List.toArray vs) el (0, 0)) ∧ RepL own w cells σ vs
 | .arr n sz get => e.n = n ∧ (n = 0 ∨ ∃ ad cs el, e.ad = some ad ∧ w.heap[ad.block]? = some (.cells cs el (0, 0)) ∧ ad.off + n * sz ≤ cs.size ∧
   ∀ j o, j < n → o < sz → ∃ c, cs[ad.off + (j * sz + o)]? = some c ∧ c.oneCell' = true ∧ Rep own w (get j o) [] c)
structure HRep (own : Nat → Prop) (w : World) (σ : List SE) (h : Heap) : Prop where
 len : σ.length = h.length
 inj : ∀ (i j : Nat) (e f : SE) (a b : Addr), σ[i]? = some e → σ[j]? = some f → e.ad = some a → f.ad = some b → i ≠ j → a.block ≠ b.block
 lt : ∀ (i : Nat) (e : SE) (a : Addr), σ[i]? = some e → e.ad = some a → a.block < w.heap.size
 blk : ∀ (i : Nat) (e : SE) (b : Blk), σ[i]? = some e → h[i]? = some b → BRep own w σ e b
structure Ext (own : Nat → Prop) (w : World) (own' : Nat → Prop) (w' : World) : Prop where
 os : w'.os = w.os
 tape : w'.tape = w.tape
 output : w'.output = w.output
 size : w.heap.size ≤ w'.heap.size
 keep : ∀ b, b < w.heap.size → ¬ own b → w'.heap[b]? = w.heap[b]?
 grow : ∀ b, own' b → own b ∨ w.heap.size ≤ b
theorem Ext.refl (own : Nat → Prop) (w : World) : Ext own w own w := ⟨rfl, rfl, rfl, Nat.le_refl _, fun _ _ _ => rfl, fun _ h => .inl h⟩
theorem Ext.trans {o1 o2 o3 : Nat → Prop} {w1 w2 w3 : World} (h : Ext o1 w1 o2 w2) (k : Ext o2 w2 o3 w3) : Ext o1 w1 o3 w3 where
 os := k.os.trans h.os
 tape := k.tape.trans h.tape
 output := k.output.trans h.output
 size := Nat.le_trans h.size k.size
 keep b hb hn := by
  rw [k.keep b (Nat.lt_of_lt_of_le hb h.size) (fun h2 => by
   rcases h.grow b h2 with h3 | h3
   ·exact hn h3
   ·omega)]
  exact h.keep b hb hn
 grow b hb := by
  rcases k.grow b hb with h2 | h2
  ·exact h.grow b h2
  ·exact .inr (Nat.le_trans h.size h2)
theorem xB {w : World} {a : Addr} {c : Value} (h : w.cell? a = some c) : a.block < w.heap.size := by
 unfold World.cell? at h
 cases hb : w.heap[a.block]? with
 | none => simp [hb] at h
 | some o => exact (Array.getElem?_eq_some_iff.1 hb).1
theorem Ext.cell {o1 o2 : Nat → Prop} {w1 w2 : World} (h : Ext o1 w1 o2 w2) {a : Addr} {c : Value} (hn : ¬ o1 a.block) (hc : w1.cell? a = some c) : w2.cell? a = some c := by
 rw [← hc]
 exact World.cell?_of_block (h.keep a.block (xB hc) hn)
theorem Ext.yo {o1 o2 : Nat → Prop} {w1 w2 : World} (h : Ext o1 w1 o2 w2) {b : Nat} (hb : b < w1.heap.size) (hn : ¬ o1 b) : ¬ o2 b := fun h2 => by
 rcases h.grow b h2 with h3 | h3
 ·exact hn h3
 ·omega
def Hold (K : List Nat) (w : World) (σ : List SE) (w' : World) (σ' : List SE) : Prop :=
 ∀ (i : Nat) (e : SE), σ[i]? = some e → i ∉ K → σ'[i]? = some e ∧ ∀ ad, e.ad = some ad → ∀ cs el, w.heap[ad.block]? = some (.cells cs el (0, 0)) →
  ∃ cs' el', w'.heap[ad.block]? = some (.cells cs' el' (0, 0)) ∧ cs'.size = cs.size
theorem Hold.refl (K : List Nat) (w : World) (σ : List SE) : Hold K w σ w σ := fun _ _ h _ => ⟨h, fun _ _ cs el h => ⟨cs, el, h, rfl⟩⟩
mutual
def NoH (K : List Nat) : AV → Prop
 | .osl i _ _ _ => i ∉ K
 | .ptr i _ => i ∉ K
 | .eptr i _ _ _ => i ∉ K
 | .agg cs => NoHL K cs
 | .tup cs => NoHL K cs
 | .fn _ a b => NoHL K a ∧ NoHL K b
 | _ => True
def NoHL (K : List Nat) : List AV → Prop
 | [] => True
 | a :: l => NoH K a ∧ NoHL K l
end
section
variable {K : List Nat} {o1 o2 : Nat → Prop} {w1 w2 : World} {σ1 σ2 : List SE}
mutual
theorem zu (hx : Ext o1 w1 o2 w2) : ∀ (a : AV) (v : Value), Rep o1 w1 a [] v → Rep o2 w2 a [] v
 | .undef, _, _ => by simp [Rep]
 | .bool b, v, h => by simpa [Rep] using h
 | .int k n, v, h => by simpa [Rep] using h
 | .str s, v, h => by simpa [Rep] using h
 | .nils, v, h => by simpa [Rep] using h
 | .sl n sz get, v, h => by
  simp only [Rep] at h ⊢
  obtain ⟨a, cap, hv, hle, hr⟩ := h
  refine ⟨a, cap, hv, hle, ?_⟩
  rcases hr with hr | ⟨ad, ha, hs, hr⟩
  ·exact .inl hr
  ·refine .inr ⟨ad, ha, hs, fun j o hj ho => ?_⟩
   obtain ⟨hn, c, hc, h1, hR⟩ := hr j o hj ho
   exact ⟨hx.yo (xB (a := ⟨ad.block, _, none⟩) hc) hn, c, hx.cell (a := ⟨ad.block, _, none⟩) hn hc, h1, zu hx (get j o) c hR⟩
 | .osl i sz off n, v, h => by simp [Rep] at h
 | .ptr i off, v, h => by simp [Rep] at h
 | .nilp, v, h => by simpa [Rep] using h
 | .eptr i sz idx off, v, h => by simp [Rep] at h
 | .iptr m get, v, h => by
  simp only [Rep] at h ⊢
  obtain ⟨ad, hv, hs, hr⟩ := h
  refine ⟨ad, hv, hs, fun o ho => ?_⟩
  obtain ⟨hn, c, hc, hR⟩ := hr o ho
  exact ⟨hx.yo (xB (a := ⟨ad.block, _, none⟩) hc) hn, c, hx.cell (a := ⟨ad.block, _, none⟩) hn hc, zu hx (get o) c hR⟩
 | .gptr g, v, h => by simpa [Rep] using h
 | .agg cs, v, h => by
  simp only [Rep] at h ⊢
  obtain ⟨vs, hv, hr⟩ := h
  exact ⟨vs, hv, wi hx cs vs hr⟩
 | .tup cs, v, h => by
  simp only [Rep] at h ⊢
  obtain ⟨vs, hv, hr⟩ := h
  exact ⟨vs, hv, wi hx cs vs hr⟩
 | .fn f a b, v, h => by
  simp only [Rep] at h ⊢
  obtain ⟨va, vb, hv, hr, hr2⟩ := h
  exact ⟨va, vb, hv, wi hx a va hr, wi hx b vb hr2⟩
 | .nilf, v, h => by simpa [Rep] using h
 | .opt _ _ _, _, _ => by simp [Rep]
 | .mp k ag sz ks has get, v, h => by
  simp only [Rep] at h ⊢
  obtain ⟨b, es, clock, hv, hn, hlim, hb, hg⟩ := h
  have hlt : b < w1.heap.size := (Array.getElem?_eq_some_iff.1 hb).1
  refine ⟨b, es, clock, hv, hx.yo hlt hn, (by
   obtain ⟨g, h1, h2, h3⟩ := hlim
   exact ⟨g, hx.yo (xB (a := ⟨g, 0, none⟩) h3) h1, h2, hx.cell (a := ⟨g, 0, none⟩) h1 h3⟩), by rw [hx.keep b hlt hn]; exact hb, fun n => ⟨(hg n).1, fun h1 => ?_⟩⟩
  obtain ⟨i, x, h2, h3⟩ := (hg n).2 h1
  refine ⟨i, x, h2, ?_⟩
  cases ag with
  | true =>
   obtain ⟨vs, e1, e2, e3⟩ := h3
   exact ⟨vs, e1, e2, fun o ho => by
    obtain ⟨c, g1, g2⟩ := e3 o ho
    exact ⟨c, g1, zu hx (get n o) c g2⟩⟩
  | false => exact zu hx (get n 0) x h3
theorem wi (hx : Ext o1 w1 o2 w2) : ∀ (l : List AV) (vs : List Value), RepL o1 w1 l [] vs → RepL o2 w2 l [] vs
 | [], vs, h => by simpa [RepL] using h
 | a :: l, vs, h => by
  simp only [RepL] at h ⊢
  obtain ⟨v, r, hv, h1, h2⟩ := h
  exact ⟨v, r, hv, zu hx a v h1, wi hx l r h2⟩
end
mutual
theorem q6 (hx : Ext o1 w1 o2 w2) (hh : Hold K w1 σ1 w2 σ2) : ∀ (a : AV) (v : Value), NoH K a → Rep o1 w1 a σ1 v → Rep o2 w2 a σ2 v
 | .undef, _, _, _ => by simp [Rep]
 | .bool b, v, _, h => by simpa [Rep] using h
 | .int k n, v, _, h => by simpa [Rep] using h
 | .str s, v, _, h => by simpa [Rep] using h
 | .nils, v, _, h => by simpa [Rep] using h
 | .sl n sz get, v, _, h => by
  have := zu hx (.sl n sz get) v (by simpa only [Rep] using h)
  simpa only [Rep] using this
 | .osl i sz off n, v, hK, h => by
  simp only [Rep, NoH] at h hK ⊢
  obtain ⟨e, he, hl, a, cap, hv, hc, hr⟩ := h
  obtain ⟨h1, h2⟩ := hh i e he hK
  refine ⟨e, h1, hl, a, cap, hv, hc, ?_⟩
  rcases hr with hr | ⟨ad, ha, hb, cs, el, hcs, hsz⟩
  ·exact .inl hr
  ·obtain ⟨cs', el', hcs', hsz'⟩ := h2 ad ha cs el hcs
   exact .inr ⟨ad, ha, hb, cs', el', hcs', by omega⟩
 | .ptr i off, v, hK, h => by
  simp only [Rep, NoH] at h hK ⊢
  obtain ⟨e, ad, he, ha, hv⟩ := h
  exact ⟨e, ad, (hh i e he hK).1, ha, hv⟩
 | .nilp, v, _, h => by simpa [Rep] using h
 | .eptr i sz idx off, v, hK, h => by
  simp only [Rep, NoH] at h hK ⊢
  obtain ⟨e, ad, he, ha, hl, hv⟩ := h
  exact ⟨e, ad, (hh i e he hK).1, ha, hl, hv⟩
 | .iptr m get, v, _, h => by
  have := zu hx (.iptr m get) v (by simpa only [Rep] using h)
  simpa only [Rep] using this
 | .gptr g, v, _, h => by simpa [Rep] using h
 | .agg cs, v, hK, h => by
  simp only [Rep, NoH] at h hK ⊢
  obtain ⟨vs, hv, hr⟩ := h
  exact ⟨vs, hv, qu hx hh cs vs hK hr⟩
 | .tup cs, v, hK, h => by
  simp only [Rep, NoH] at h hK ⊢
  obtain ⟨vs, hv, hr⟩ := h
  exact ⟨vs, hv, qu hx hh cs vs hK hr⟩
 | .fn f a b, v, hK, h => by
  simp only [Rep, NoH] at h hK ⊢
  obtain ⟨va, vb, hv, hr, hr2⟩ := h
  exact ⟨va, vb, hv, qu hx hh a va hK.1 hr, qu hx hh b vb hK.2 hr2⟩
 | .nilf, v, _, h => by simpa [Rep] using h
 | .opt _ _ _, _, _, _ => by simp [Rep]
 | .mp k ag sz ks has get, v, _, h => by
  have := zu hx (.mp k ag sz ks has get) v (by simpa only [Rep] using h)
  simpa only [Rep] using this
theorem qu (hx : Ext o1 w1 o2 w2) (hh : Hold K w1 σ1 w2 σ2) : ∀ (l : List AV) (vs : List Value), NoHL K l → RepL o1 w1 l σ1 vs → RepL o2 w2 l σ2 vs
 | [], vs, _, h => by simpa [RepL] using h
 | a :: l, vs, hK, h => by
  simp only [RepL, NoHL] at h hK ⊢
  obtain ⟨v, r, hv, h1, h2⟩ := h
  exact ⟨v, r, hv, q6 hx hh a v hK.1 h1, qu hx hh l r hK.2 h2⟩
end
theorem w9.ext (h : w9 o1 w1) (hx : Ext o1 w1 o2 w2) : w9 o2 w2 := ⟨fun g a hz => by
 obtain ⟨h1, c, h2, h3, h4⟩ := h.at_ g a hz
 exact ⟨hx.yo (xB (a := ⟨g, 0, none⟩) h2) h1, c, hx.cell (a := ⟨g, 0, none⟩) h1 h2, zu hx a _ h3, fun b hb => Nat.lt_of_lt_of_le (h4 b hb) hx.size⟩⟩
theorem w9.own (h : w9 o1 w1) (hs : ∀ b, o2 b → o1 b) : w9 o2 w1 := h.ext ⟨rfl, rfl, rfl, Nat.le_refl _, fun _ _ _ => rfl, fun b hb => .inl (hs b hb)⟩
end
end Go.Sx
end

/- The operations that only compute and read: what the executor says of them is so. -/
section
namespace Go.Sx
variable [Stat]
theorem yC {α : Type} {l : List α} {o n j : Nat} {v : α} (h : ((l.drop o).take n)[j]? = some v) : l[o + j]? = some v ∧ j < n := by
 simp only [List.getElem?_take, List.getElem?_drop] at h
 split at h
 ·rename_i hj; exact ⟨h, hj⟩
 ·cases h
theorem Ws {vs : List Value} (o n : Nat) : vs.toArray.extract o (o + n) = ((vs.drop o).take n).toArray := by
 apply Array.ext'
 simp [List.extract_eq_drop_take', ← List.drop_take]
namespace Tree
theorem zi {α β : Type} {f : α → Tree β} {Q : β → Prop} : ∀ {t : Tree α}, (t.bind f).holds Q ↔ t.holds fun a => (f a).holds Q
 | .leaf a => Iff.rfl
 | .ite b t e => by simp only [bind, holds, zi (t := t), zi (t := e)]
 | .side p t => by simp only [bind, holds, zi (t := t)]
 | .ex p k => by simp only [bind, holds]; exact exists_congr fun n => and_congr Iff.rfl zi
 | .all p k => by simp only [bind, holds]; exact and_congr Iff.rfl (forall_congr' fun n => imp_congr Iff.rfl zi)
 | .fail => Iff.rfl
theorem zV {α : Type} {Q Q' : α → Prop} (h : ∀ a, Q a → Q' a) : ∀ {t : Tree α}, t.holds Q → t.holds Q'
 | .leaf a, hq => h a hq
 | .ite b t e, hq => ⟨fun hb => zV h (hq.1 hb), fun hb => zV h (hq.2 hb)⟩
 | .side p t, hq => ⟨hq.1, fun hp => zV h (hq.2 hp)⟩
 | .ex p k, hq => by obtain ⟨n, h1, h2⟩ := hq; exact ⟨n, h1, zV h h2⟩
 | .all p k, hq => ⟨hq.1, fun n hn => zV h (hq.2 n hn)⟩
 | .fail, hq => hq
theorem wB {α : Type} : ∀ {t : Tree α} {Q : α → Prop}, t.holds Q → ∃ a, Q a
 | .leaf a, Q, hq => ⟨a, hq⟩
 | .ite true t e, Q, hq => wB (hq.1 rfl)
 | .ite false t e, Q, hq => wB (hq.2 rfl)
 | .side p t, Q, hq => wB (hq.2 hq.1)
 | .ex p k, Q, hq => by
  obtain ⟨n, _, h⟩ := hq
  exact wB h
 | .all p k, Q, hq => by
  obtain ⟨n, hn⟩ := hq.1
  exact wB (hq.2 n hn)
 | .fail, Q, hq => hq.elim
end Tree
section
variable {own : Nat → Prop} {w : World} {σ : List SE}
theorem zq : ∀ {l : List AV} {vs : List Value}, RepL own w l σ vs ↔ vs.length = l.length ∧ ∀ (i : Nat) a v, l[i]? = some a → vs[i]? = some v → Rep own w a σ v
 | [], vs => by
  simp only [RepL]
  constructor
  ·rintro rfl; simp
  ·rintro ⟨h, _⟩; simpa using h
 | a :: l, vs => by
  simp only [RepL]
  constructor
  ·rintro ⟨v, r, rfl, h1, h2⟩
   obtain ⟨h3, h4⟩ := zq.1 h2
   refine ⟨by simp [h3], fun i x y hx hy => ?_⟩
   cases i with
   | zero => simp at hx hy; subst hx; subst hy; exact h1
   | succ i => simp at hx hy; exact h4 i x y hx hy
  ·rintro ⟨h1, h2⟩
   match vs, h1 with
   | v :: r, h1 =>
    refine ⟨v, r, rfl, h2 0 a v (by simp) (by simp), zq.2 ⟨by simpa using h1, fun i x y hx hy => h2 (i + 1) x y (by simpa using hx) (by simpa using hy)⟩⟩
theorem RepL.length {l : List AV} {vs : List Value} (h : RepL own w l σ vs) : vs.length = l.length := (zq.1 h).1
theorem RepL.get {l : List AV} {vs : List Value} (h : RepL own w l σ vs) {i : Nat} {a : AV} (ha : l[i]? = some a) : ∃ v, vs[i]? = some v ∧ Rep own w a σ v := by
 have hl := h.length
 have hi : i < vs.length := by rw [hl]; exact (List.getElem?_eq_some_iff.1 ha).1
 exact ⟨vs[i], by simp [hi], (zq.1 h).2 i a _ ha (by simp [hi])⟩
theorem RepL.cut {l : List AV} {vs : List Value} (h : RepL own w l σ vs) (o n : Nat) : RepL own w ((l.drop o).take n) σ ((vs.drop o).take n) := by
 have hl := h.length
 refine zq.2 ⟨by simp [hl], fun i a v ha hv => ?_⟩
 simp only [List.getElem?_take, List.getElem?_drop] at ha hv
 split at ha
 ·simp_all only [ite_true]; exact (zq.1 h).2 _ a v ha hv
 ·cases ha
theorem RepL.app {l l' : List AV} {vs vs' : List Value} (h : RepL own w l σ vs) (h' : RepL own w l' σ vs') : RepL own w (l ++ l') σ (vs ++ vs') := by
 have hl := h.length
 have hl' := h'.length
 refine zq.2 ⟨by simp [hl, hl'], fun i a v ha hv => ?_⟩
 rw [List.getElem?_append] at ha hv
 split at ha
 ·rw [if_pos (by omega)] at hv; exact (zq.1 h).2 i a v ha hv
 ·rw [if_neg (by omega), hl] at hv; exact (zq.1 h').2 _ a v ha hv
theorem RepL.drp {l : List AV} {vs : List Value} (h : RepL own w l σ vs) (o : Nat) : RepL own w (l.drop o) σ (vs.drop o) := by
 have := h.cut o (l.length - o)
 rwa [List.take_of_length_le (by simp), List.take_of_length_le (by simp [h.length])] at this
theorem RepL.tak {l : List AV} {vs : List Value} (h : RepL own w l σ vs) (n : Nat) : RepL own w (l.take n) σ (vs.take n) := by
 have := h.cut 0 n
 simpa using this
mutual
theorem jG : ∀ a : AV, NoH [] a
 | .osl .. => by simp [NoH]
 | .ptr .. => by simp [NoH]
 | .eptr .. => by simp [NoH]
 | .agg cs => by simp only [NoH]; exact jy cs
 | .tup cs => by simp only [NoH]; exact jy cs
 | .fn _ a b => by simp only [NoH]; exact ⟨jy a, jy b⟩
 | .undef => by simp [NoH]
 | .bool _ => by simp [NoH]
 | .int _ _ => by simp [NoH]
 | .str _ => by simp [NoH]
 | .nils => by simp [NoH]
 | .sl .. => by simp [NoH]
 | .nilp => by simp [NoH]
 | .iptr .. => by simp [NoH]
 | .gptr _ => by simp [NoH]
 | .nilf => by simp [NoH]
 | .opt .. => by simp [NoH]
 | .mp .. => by simp [NoH]
theorem jy : ∀ l : List AV, NoHL [] l
 | [] => by simp [NoHL]
 | a :: l => by simp only [NoHL]; exact ⟨jG a, jy l⟩
end
theorem Rep.any {a : AV} {v : Value} (h : Rep own w a [] v) (σ : List SE) : Rep own w a σ v :=
 q6 (K := []) (Ext.refl own w) (fun i e he => by simp at he) a v (jG a) h
theorem RepL.any {a : List AV} {v : List Value} (h : RepL own w a [] v) (σ : List SE) : RepL own w a σ v :=
 qu (K := []) (Ext.refl own w) (fun i e he => by simp at he) a v (jy a) h
variable {P : Program}
theorem ku {t : TypeId} {a : Bool} (h : wK P t = some a) : (isAgg t).run P w = .ok a w := by
 unfold wK at h
 cases hu : P.underlying t with
 | none => simp [hu] at h
 | some d =>
  simp only [isAgg, Sem.run_bind, run_underlying hu, Result.andThen_ok]
  cases d <;> simp_all
theorem zz {t : TypeId} {n : Nat} (h : qg P t = some n) : (sizeOf t).run P w = .ok n w := by
 unfold qg at h
 cases hi : P.info? t with
 | none => simp [hi] at h
 | some i =>
  simp [hi] at h
  rw [run_sizeOf w hi, Program.cellsOf, hi]
  simp [h]
theorem xa {b : Bool} {cs : List AV} {vs : List Value} {Q : AV → Prop} (hr : RepL own w cs σ vs) (h : (jW b cs).holds Q) :
  ∃ r v, Q r ∧ Rep own w r σ v ∧ (b = true → v = .agg vs.toArray) ∧ (b = false → vs = [v]) := by
 unfold jW at h
 cases b with
 | true =>
  simp only [if_true, Tree.holds] at h
  exact ⟨_, .agg vs.toArray, h, by simp only [Rep]; exact ⟨vs, rfl, hr⟩, fun _ => rfl, (fun h => by cases h)⟩
 | false =>
  simp only [Bool.false_eq_true, if_false] at h
  match cs, h with
  | [c], h =>
   simp only [RepL] at hr
   obtain ⟨v, r, rfl, h1, rfl⟩ := hr
   exact ⟨c, v, h, h1, (fun h => by cases h), fun _ => rfl⟩
  | [], h => exact h.elim
  | _ :: _ :: _, h => exact h.elim
theorem jI {t : TypeId} {b : Bool} {n : Nat} {bl off : Nat} {cs : List AV} {vs : List Value} {Q : AV → Prop} (ht : wK P t = some b) (hn : qg P t = some n)
  (hl : vs.length = n) (hc : ∀ j v, vs[j]? = some v → w.cell? ⟨bl, off + j, none⟩ = some v) (hr : RepL own w cs σ vs) (h : (jW b cs).holds Q) :
  ∃ r v, (loadVar t ⟨bl, off, none⟩).run P w = .ok v w ∧ Q r ∧ Rep own w r σ v := by
 obtain ⟨r, v, hq, hR, h1, h2⟩ := xa hr h
 refine ⟨r, v, ?_, hq, hR⟩
 simp only [loadVar, Sem.run_bind, ku ht, Result.andThen_ok]
 have hadd : ∀ j, (⟨bl, off, none⟩ : Addr).add j = ⟨bl, off + j, none⟩ := fun j => by unfold Addr.add; split <;> simp_all
 cases b with
 | true =>
  have hld := run_loadCells_list (P := P) w ⟨bl, off, none⟩ vs (fun j v hv => by rw [hadd]; exact hc j v hv)
  rw [hl] at hld
  simp only [if_true, Sem.run_bind, zz hn, Result.andThen_ok, hld, Sem.run_pure, h1 rfl]
 | false =>
  have := h2 rfl
  subst this
  have := hc 0 v (by simp)
  simp only [Nat.add_zero] at this
  simp [this]
theorem vD {b : Nat} {cs : Array Value} {el : TypeId} {fr : Nat × Nat} {o : Nat} {v : Value} (h : w.heap[b]? = some (.cells cs el fr)) (hv : cs[o]? = some v) : w.cell? ⟨b, o, none⟩ = some v := by
 simp [World.cell?, h, hv]
theorem yQ {h : Heap} (hh : HRep own w σ h) {t : TypeId} {a : AV} {va : Value} {Q : AV → Prop} (ha : Rep own w a σ va) (hq : (y5 P h t a).holds Q) :
  ∃ r v, (Instr.loadAt t va).run P w = .ok v w ∧ Q r ∧ Rep own w r σ v := by
 cases a with
 | ptr i off =>
  simp only [Rep] at ha
  obtain ⟨e, ad, he, had, rfl⟩ := ha
  simp only [y5] at hq
  split at hq
  ·rename_i cells b n hb ht hn
   split at hq
   ·rename_i hle
    obtain ⟨ad', vs, el, had', h0, hcs, hr⟩ := hh.blk i e _ he hb
    rw [had] at had'
    cases had'
    have hlen := hr.length
    obtain ⟨r, v, h1, h2, h3⟩ := jI (P := P) (bl := ad.block) (off := off) ht hn (vs := (vs.drop off).take n) (by simp; omega)
     (fun j v hv => vD hcs (by simpa using (yC hv).1)) (hr.cut off n) hq
    refine ⟨r, v, ?_, h2, h3⟩
    simp only [Instr.loadAt, Instr.sureAddr, Sem.run_bind, Sem.run_pure, Result.andThen_ok, h0, Nat.zero_add]
    exact h1
   ·exact hq.elim
  ·exact hq.elim
 | eptr i sz idx off =>
  simp only [Rep] at ha
  obtain ⟨e, ad, he, had, hidx, rfl⟩ := ha
  simp only [y5] at hq
  split at hq
  ·rename_i n' sz' g b n hb ht hn
   split at hq
   ·rename_i hle
    obtain ⟨rfl, hle⟩ := hle
    obtain ⟨hen, hz | ⟨ad', cs, el, had', hcs, hsz, hr⟩⟩ := hh.blk i e _ he hb
    ·omega
    rw [had] at had'
    cases had'
    have hex : ∀ o, o < n → ∃ c, cs[ad.off + (idx * sz + off) + o]? = some c ∧ Rep own w (g idx (off + o)) [] c := fun o ho => by
     obtain ⟨c, h1, _, h2⟩ := hr idx (off + o) (by omega) (by omega)
     exact ⟨c, by rw [← h1]; congr 1; omega, h2⟩
    obtain ⟨f, hf⟩ := Classical.axiomOfChoice (r := fun (o : Nat) c => o < n → cs[ad.off + (idx * sz + off) + o]? = some c ∧ Rep own w (g idx (off + o)) [] c)
     (fun o => by
      by_cases ho : o < n
      ·obtain ⟨c, hc⟩ := hex o ho; exact ⟨c, fun _ => hc⟩
      ·exact ⟨undef, fun h => absurd h ho⟩)
    obtain ⟨r, v, h1, h2, h3⟩ := jI (P := P) (σ := σ) (bl := ad.block) (off := ad.off + (idx * sz + off)) ht hn (vs := (List.range n).map f) (by simp)
     (fun j v hv => by
      simp only [List.getElem?_map, List.getElem?_range] at hv
      by_cases hj : j < n
      ·simp [hj] at hv; subst hv; exact vD hcs (hf j hj).1
      ·simp [hj] at hv)
     (cs := (List.range n).map fun o => g idx (off + o)) (zq.2 ⟨by simp, fun j a v ha hv => by
      by_cases hj : j < n
      ·simp [hj] at ha hv; subst ha; subst hv; exact (hf j hj).2.any σ
      ·simp [hj] at ha⟩) hq
    refine ⟨r, v, ?_, h2, h3⟩
    simp only [Instr.loadAt, Instr.sureAddr, Sem.run_bind, Sem.run_pure, Result.andThen_ok]
    exact h1
   ·exact hq.elim
  ·rename_i cells b n hb ht hn
   split at hq
   ·rename_i hle
    obtain ⟨ad', vs, el, had', h0, hcs, hr⟩ := hh.blk i e _ he hb
    rw [had] at had'
    cases had'
    have hlen := hr.length
    obtain ⟨r, v, h1, h2, h3⟩ := jI (P := P) (bl := ad.block) (off := idx * sz + off) ht hn (vs := (vs.drop (idx * sz + off)).take n) (by simp; omega)
     (fun j v hv => vD hcs (by simpa using (yC hv).1)) (hr.cut (idx * sz + off) n) hq
    refine ⟨r, v, ?_, h2, h3⟩
    simp only [Instr.loadAt, Instr.sureAddr, Sem.run_bind, Sem.run_pure, Result.andThen_ok, h0, Nat.zero_add]
    exact h1
   ·exact hq.elim
  ·exact hq.elim
 | iptr m g =>
  simp only [Rep] at ha
  obtain ⟨ad, rfl, hs, hr⟩ := ha
  simp only [y5] at hq
  split at hq
  ·rename_i b n ht hn
   split at hq
   ·rename_i hle
    obtain ⟨f, hf⟩ := Classical.axiomOfChoice (r := fun (o : Nat) c => o < n → w.cell? ⟨ad.block, ad.off + o, none⟩ = some c ∧ Rep own w (g o) [] c)
     (fun o => by
      by_cases ho : o < n
      ·obtain ⟨_, c, hc⟩ := hr o (by omega); exact ⟨c, fun _ => hc⟩
      ·exact ⟨undef, fun h => absurd h ho⟩)
    obtain ⟨r, v, h1, h2, h3⟩ := jI (P := P) (σ := σ) (bl := ad.block) (off := ad.off) ht hn (vs := (List.range n).map f) (by simp)
     (fun j v hv => by
      by_cases hj : j < n
      ·simp [hj] at hv; subst hv; exact (hf j hj).1
      ·simp [hj] at hv)
     (cs := (List.range n).map g) (zq.2 ⟨by simp, fun j a v ha hv => by
      by_cases hj : j < n
      ·simp [hj] at ha hv; subst ha; subst hv; exact (hf j hj).2.any σ
      ·simp [hj] at ha⟩) hq
    refine ⟨r, v, ?_, h2, h3⟩
    have : ad = ⟨ad.block, ad.off, none⟩ := by cases ad; simp_all
    simp only [Instr.loadAt, Instr.sureAddr, Sem.run_bind, Sem.run_pure, Result.andThen_ok]
    rw [this]
    exact h1
   ·exact hq.elim
  ·exact hq.elim
 | _ => exact hq.elim
end
end Go.Sx
end

/- The other operations that only compute and read. -/
section
namespace Go.Sx
variable [Stat]
theorem vn {k : IntKind} {n : Int} (h : inR k n) : k.wrap n = n := by
 unfold inR at h
 cases k <;> simp only [lo, hi] at h <;> simp [IntKind.wrap, IntKind.bits, IntKind.signed] <;> omega
section
variable {own : Nat → Prop} {w : World} {σ : List SE} {P : Program}
theorem add_plain {a : Addr} (h : a.spot = none) (n : Nat) : a.add n = ⟨a.block, a.off + n, none⟩ := by
 cases a; simp at h; subst h; unfold Addr.add; split <;> simp_all
theorem WC {d : Nat} {a : AV} {va : Value} {Q : AV → Prop} (ha : Rep own w a σ va) (hq : (VS d a).holds Q) :
  ∃ ad r, va = .pointer (some ad) ∧ ad.spot = none ∧ Q r ∧ Rep own w r σ (.pointer (some (ad.add d))) := by
 cases a with
 | ptr i off =>
  simp only [Rep] at ha
  obtain ⟨e, ad, he, had, rfl⟩ := ha
  refine ⟨_, _, rfl, rfl, hq, ?_⟩
  simp only [Rep]
  exact ⟨e, ad, he, had, by rw [add_plain rfl]; simp [Nat.add_assoc]⟩
 | eptr i sz idx off =>
  simp only [Rep] at ha
  obtain ⟨e, ad, he, had, hl, rfl⟩ := ha
  refine ⟨_, _, rfl, rfl, hq, ?_⟩
  simp only [Rep]
  exact ⟨e, ad, he, had, hl, by rw [add_plain rfl]; simp [Nat.add_assoc]⟩
 | iptr m g =>
  simp only [Rep] at ha
  obtain ⟨ad, rfl, hs, hr⟩ := ha
  simp only [VS] at hq
  split at hq
  ·rename_i hle
   refine ⟨_, _, rfl, hs, hq, ?_⟩
   simp only [Rep]
   refine ⟨_, rfl, by rw [add_plain hs], fun o ho => ?_⟩
   obtain ⟨h1, c, h2, h3⟩ := hr (d + o) (by omega)
   rw [add_plain hs]
   exact ⟨h1, c, by simpa [Nat.add_assoc] using h2, by simpa [atG] using h3⟩
  ·exact hq.elim
 | _ => exact hq.elim
theorem kJ {s : TypeId} {f o ft n : Nat} (h : kh P s f = some (o, ft, n)) :
  ∃ fs fld, P.underlying s = some (.struct fs) ∧ fs[f]? = some fld ∧ fld.offset = o ∧ fld.type = ft ∧ qg P ft = some n ∧ n ≠ 0 := by
 unfold kh at h
 split at h
 ·rename_i fs hu
  split at h
  ·rename_i fld hf
   split at h
   ·rename_i i hi
    split at h
    ·cases h
    ·rename_i hz
     simp only [Option.some.injEq, Prod.mk.injEq] at h
     obtain ⟨rfl, rfl, rfl⟩ := h
     exact ⟨fs, fld, hu, hf, rfl, rfl, by simp [qg, hi], hz⟩
   ·cases h
  ·cases h
 ·cases h
theorem yA {t f : Nat} {o ft n : Nat} {a : AV} {va : Value} {Q : AV → Prop} (hf : kh P t f = some (o, ft, n)) (ha : Rep own w a σ va) (hq : (VS o a).holds Q) :
  ∃ r v, (Instr.fieldAt t va f).run P w = .ok v w ∧ Q r ∧ Rep own w r σ v := by
 obtain ⟨fs, fld, hu, hfl, rfl, rfl, hs, hz⟩ := kJ hf
 obtain ⟨ad, r, rfl, hsp, hQ, hR⟩ := WC ha hq
 refine ⟨r, _, ?_, hQ, hR⟩
 simp only [Instr.fieldAt, Sem.run_bind, run_underlying hu, Result.andThen_ok, hfl, Instr.sureAddr, Sem.run_pure, fieldPlace, zz hs, Sem.run_ite, if_neg hz]
theorem Jz {t f : Nat} {a : AV} {va : Value} {Q : AV → Prop} (ha : Rep own w a σ va) (hq : (VA P t f a).holds Q) :
  ∃ r v, (Instr.field t va f).run P w = .ok v w ∧ Q r ∧ Rep own w r σ v := by
 cases a with
 | agg cs =>
  simp only [Rep] at ha
  obtain ⟨vs, rfl, hr⟩ := ha
  simp only [VA] at hq
  split at hq
  ·rename_i o ft n hf
   split at hq
   ·rename_i b hb
    split at hq
    ·rename_i hle
     obtain ⟨fs, fld, hu, hfl, rfl, rfl, hs, hz⟩ := kJ hf
     obtain ⟨r, v, hQ, hR, h1, h2⟩ := xa (hr.cut fld.offset n) hq
     refine ⟨r, v, ?_, hQ, hR⟩
     simp only [Instr.field, Sem.run_bind, run_underlying hu, Result.andThen_ok, hfl, asAgg, Sem.run_pure, part, ku hb]
     cases b with
     | true =>
      simp only [if_true, Sem.run_bind, zz hs, Result.andThen_ok, Sem.run_pure, h1 rfl]
      congr 2
      apply Array.ext'
      simp [List.extract_eq_drop_take', ← List.drop_take]
     | false =>
      have h3 := h2 rfl
      have h4 : ((vs.drop fld.offset).take n)[0]? = some v := by rw [h3]; rfl
      have h5 := (yC h4).1
      simp only [Nat.add_zero] at h5
      simp [h5]
    ·exact hq.elim
   ·exact hq.elim
  ·exact hq.elim
 | _ => exact hq.elim
theorem Zn {i : Nat} {a : AV} {va : Value} {Q : AV → Prop} (ha : Rep own w a σ va) (hq : (ug i a).holds Q) :
  ∃ r v, (Instr.extract va i).run P w = .ok v w ∧ Q r ∧ Rep own w r σ v := by
 cases a with
 | tup cs =>
  simp only [Rep] at ha
  obtain ⟨vs, rfl, hr⟩ := ha
  simp only [ug] at hq
  split at hq
  ·rename_i c hc
   obtain ⟨v, hv, hR⟩ := hr.get hc
   exact ⟨c, v, by simp [Instr.extract, hv], hq, hR⟩
  ·exact hq.elim
 | _ => exact hq.elim
theorem QB {op : BinOp} {k : IntKind} {x y : Int} {t : TypeId} {Q : AV → Prop} (hq : (W5 op k x y).holds Q) :
  ∃ r v, (binOp op t (.int k x) (.int k y)).run P w = .ok v w ∧ Q r ∧ Rep own w r σ v := by
 cases op <;> simp only [W5, Tree.holds] at hq
 case add => obtain ⟨h1, h2⟩ := hq; exact ⟨_, .int k (x + y), by simp [binOp, Op.intArith, vn h1], h2 h1, by simp [Rep]⟩
 case sub => obtain ⟨h1, h2⟩ := hq; exact ⟨_, .int k (x - y), by simp [binOp, Op.intArith, vn h1], h2 h1, by simp [Rep]⟩
 case mul => obtain ⟨h1, h2⟩ := hq; exact ⟨_, .int k (x * y), by simp [binOp, Op.intArith, vn h1], h2 h1, by simp [Rep]⟩
 case quo => obtain ⟨h1, h2⟩ := hq; exact ⟨_, .int k (x.tdiv y), by simp [binOp, Op.intDiv, h1.1, vn h1.2], h2 h1, by simp [Rep]⟩
 case rem => obtain ⟨h1, h2⟩ := hq; exact ⟨_, .int k (x.tmod y), by simp [binOp, Op.intDiv, h1], h2 h1, by simp [Rep]⟩
 case eql => exact ⟨_, _, by simp [binOp, Op.intCmp]; rfl, hq, by simp only [Rep]; congr 1⟩
 case neq => exact ⟨_, _, by simp [binOp, Op.intCmp]; rfl, hq, by simp only [Rep]; congr 1⟩
 case lss => exact ⟨_, _, by simp [binOp, Op.intCmp]; rfl, hq, by simp [Rep]⟩
 case leq => exact ⟨_, _, by simp [binOp, Op.intCmp]; rfl, hq, by simp [Rep]⟩
 case gtr => exact ⟨_, _, by simp [binOp, Op.intCmp]; rfl, hq, by simp [Rep]⟩
 case geq => exact ⟨_, _, by simp [binOp, Op.intCmp]; rfl, hq, by simp [Rep]⟩
theorem Q3 {op : BinOp} {x y : List UInt8} {t : TypeId} {Q : AV → Prop} (hq : (WD op x y).holds Q) :
  ∃ r v, (binOp op t (.string ⟨x.toArray⟩) (.string ⟨y.toArray⟩)).run P w = .ok v w ∧ Q r ∧ Rep own w r σ v := by
 have he : (x == y) = decide (x = y) := by by_cases h : x = y <;> simp [h]
 cases op <;> simp only [WD, Tree.holds] at hq
 case add =>
  obtain ⟨h1, h2⟩ := hq
  refine ⟨_, .string ⟨(x ++ y).toArray⟩, ?_, h2 h1, by simp [Rep]⟩
  have hs : ¬ ((((⟨x.toArray⟩ : ByteArray).size + (⟨y.toArray⟩ : ByteArray).size : Nat) : Int) > IntKind.i64.max) := by
   have e1 : (⟨x.toArray⟩ : ByteArray).size = x.length := by simp [ByteArray.size]
   have e2 : (⟨y.toArray⟩ : ByteArray).size = y.length := by simp [ByteArray.size]
   rw [e1, e2]; simp [IntKind.max, IntKind.signed, IntKind.bits]; omega
  simp only [binOp, Op.stringOp, if_neg hs, Sem.run_pure]
  congr 2
 case eql => exact ⟨_, _, by simp [binOp, Op.stringOp]; rfl, hq, by simp only [Rep, he]⟩
 case neq => exact ⟨_, _, by simp [binOp, Op.stringOp]; rfl, hq, by simp only [Rep, he]⟩
 case lss => exact ⟨_, _, by simp [binOp, Op.stringOp]; rfl, hq, by simp [Rep]⟩
 case leq => exact ⟨_, _, by simp [binOp, Op.stringOp]; rfl, hq, by simp only [Rep, he]⟩
 case gtr => exact ⟨_, .bool (!(Op.bytesLess x y || decide (x = y))), by simp only [binOp, Op.stringOp, Sem.run_pure, ByteArray.toList_mk, he], hq, by simp only [Rep]⟩
 case geq => exact ⟨_, _, by simp [binOp, Op.stringOp]; rfl, hq, by simp [Rep]⟩
theorem run_equalIn_bool {t : TypeId} (hu : P.underlying t = some .bool) (d : Nat) (a b : Bool) : (Op.equalIn (d + 1) t (.bool a) (.bool b)).run P w = .ok (a == b) w := by
 simp [Op.equalIn, run_underlying hu]
theorem run_equal_bool {t : TypeId} (hu : P.underlying t = some .bool) (a b : Bool) : (Op.equal t (.bool a) (.bool b)).run P w = .ok (a == b) w := run_equalIn_bool hu 9999 a b
theorem wk {ft off : Nat} {vs : Array Value} {v : Value} (h : wK P ft = some false) (hv : vs[off]? = some v) : (part ft vs off).run P w = .ok v w := by
 simp only [part, Sem.run_bind, ku h, Result.andThen_ok, Bool.false_eq_true, if_false, hv, Sem.run_pure]
theorem qO {as bs : List AV} {va vb : Array Value} (d : Nat) (ha : RepL own w as σ va.toList) (hb : RepL own w bs σ vb.toList) : ∀ {fs : List Field} {r : Bool}, jr P as bs fs = some r → (Op.eqFields (d + 1) va vb fs).run P w = .ok r w
 | [], r, h => by
  simp only [jr, Option.some.injEq] at h
  subst h; simp [Op.eqFields]
 | f :: fs, r, h => by
  simp only [jr] at h
  simp only [Op.eqFields]
  split at h
  ·rename_i hn
   rw [if_pos hn]
   split at h
   ·rename_i k x k1 k2 y hg hu h1 h2
    split at h
    ·rename_i hk
     subst hk
     split at h
     ·rename_i r' hr
      simp only [Option.some.injEq] at h
      obtain ⟨u, hu1, hu2⟩ := ha.get h1
      obtain ⟨u', hu3, hu4⟩ := hb.get h2
      simp only [Rep] at hu2 hu4
      subst hu2; subst hu4
      simp only [Sem.run_bind, wk hg (by simpa using hu1), wk hg (by simpa using hu3), Result.andThen_ok, run_equalIn_int _ _ _ _ _ _ _ hu]
      have ih := qO d ha hb hr
      subst h
      by_cases hxy : k1 = y
      ·subst hxy; simp [ih]
      ·simp [hxy]
     ·cases h
    ·cases h
   ·rename_i x y hg hu h1 h2
    split at h
    ·rename_i r' hr
     simp only [Option.some.injEq] at h
     obtain ⟨u, hu1, hu2⟩ := ha.get h1
     obtain ⟨u', hu3, hu4⟩ := hb.get h2
     simp only [Rep] at hu2 hu4
     subst hu2; subst hu4
     simp only [Sem.run_bind, wk hg (by simpa using hu1), wk hg (by simpa using hu3), Result.andThen_ok, run_equalIn_string _ _ _ _ _ hu]
     have ih := qO d ha hb hr
     subst h
     by_cases hxy : x = y
     ·subst hxy; simp [ih]
     ·simp [hxy]
    ·cases h
   ·rename_i x y hg hu h1 h2
    split at h
    ·rename_i r' hr
     simp only [Option.some.injEq] at h
     obtain ⟨u, hu1, hu2⟩ := ha.get h1
     obtain ⟨u', hu3, hu4⟩ := hb.get h2
     simp only [Rep] at hu2 hu4
     subst hu2; subst hu4
     simp only [Sem.run_bind, wk hg (by simpa using hu1), wk hg (by simpa using hu3), Result.andThen_ok, run_equalIn_bool hu]
     have ih := qO d ha hb hr
     subst h
     cases x <;> cases y <;> simp [ih]
    ·cases h
   ·cases h
  ·rename_i hn
   rw [if_neg hn]
   exact qO d ha hb h
theorem xx {op : BinOp} {t : TypeId} {x y : Operand} {n cap : Nat} {p : Option Addr} {Q : AV → Prop} (hq : (yE P op t n).holds Q) (hp : 0 < n → p.isNone = false) :
  ∃ r v, (do eqGuard op t x y (.slice p n cap) (.slice none 0 0); binOp op t (.slice p n cap) (.slice none 0 0) : Sem Value).run P w = .ok v w ∧ Q r ∧ Rep own w r σ v := by
 simp only [yE] at hq
 split at hq
 ·rename_i e hu
  have hrun : ∀ d, (Op.equalIn (d + 1) t (.slice p n cap) (.slice none 0 0)).run P w = .ok p.isNone w := fun d => by cases p <;> simp [Op.equalIn, run_underlying hu]
  split at hq
  ·refine ⟨_, .bool p.isNone, ?_, hq.2 p.isNone hp, by simp [Rep]⟩
   rw [Sem.run_bind]
   simp only [eqGuard, binOp]
   simp [Op.equal, Op.maxDepth, hrun 9999]
  ·refine ⟨_, .bool (!p.isNone), ?_, hq.2 (!p.isNone) (fun h => by rw [hp h]; rfl), by simp [Rep]⟩
   rw [Sem.run_bind]
   simp only [eqGuard, binOp]
   simp [Op.equal, Op.maxDepth, hrun 9999]
  ·exact hq.elim
 ·exact hq.elim
theorem KQ {op : BinOp} {t : TypeId} {x y : Operand} {a b : AV} {va vb : Value} {Q : AV → Prop} (ha : Rep own w a σ va) (hb : Rep own w b σ vb) (hq : (binX P op t a b).holds Q) :
  ∃ r v, (do eqGuard op t x y va vb; binOp op t va vb : Sem Value).run P w = .ok v w ∧ Q r ∧ Rep own w r σ v := by
 cases a with
 | int k n =>
  cases b with
  | int k' n' =>
   simp only [Rep] at ha hb
   subst ha; subst hb
   simp only [binX] at hq
   split at hq
   ·rename_i hk; subst hk
    obtain ⟨r, v, h1, h2⟩ := QB (P := P) (own := own) (w := w) (σ := σ) (t := t) hq
    refine ⟨r, v, ?_, h2⟩
    rw [Sem.run_bind]
    cases op <;> simp [eqGuard] <;> exact h1
   ·exact hq.elim
  | _ => exact hq.elim
 | str s =>
  cases b with
  | str s' =>
   simp only [Rep] at ha hb
   subst ha; subst hb
   obtain ⟨r, v, h1, h2⟩ := Q3 (P := P) (own := own) (w := w) (σ := σ) (t := t) hq
   refine ⟨r, v, ?_, h2⟩
   rw [Sem.run_bind]
   cases op <;> simp [eqGuard] <;> exact h1
  | _ => exact hq.elim
 | bool p =>
  cases b with
  | bool p' =>
   simp only [Rep] at ha hb
   subst ha; subst hb
   simp only [binX] at hq
   split at hq
   ·rename_i hu
    exact ⟨_, .bool (p == p'), by simp only [eqGuard, binOp, Sem.run_bind, run_equal_bool hu, Result.andThen_ok, Sem.run_pure]; rfl, hq, by simp [Rep]⟩
   ·rename_i hu
    exact ⟨_, .bool (!(p == p')), by simp only [eqGuard, binOp, Sem.run_bind, run_equal_bool hu, Result.andThen_ok, Sem.run_pure]; rfl, hq, by simp [Rep]⟩
   ·exact hq.elim
  | _ => exact hq.elim
 | agg as =>
  cases b with
  | agg bs =>
   simp only [Rep] at ha hb
   obtain ⟨vs, rfl, hr⟩ := ha
   obtain ⟨us, rfl, hs⟩ := hb
   simp only [binX] at hq
   split at hq
   ·rename_i fs hu
    split at hq
    ·rename_i hg
     split at hq
     ·rename_i r he
      have hfs : P.fieldsOf t = fs := by simp [Program.fieldsOf, hu]
      have hrun := qO (w := w) (va := vs.toArray) (vb := us.toArray) 9998 (by simpa using hr) (by simpa using hs) he
      have heq : (Op.equalIn 10000 t (.agg vs.toArray) (.agg us.toArray)).run P w = .ok r w := by
       rw [run_equalIn_struct w 9999 t vs.toArray us.toArray (by rw [hfs]; exact hu) hg.1, hfs]; exact hrun
      rw [Sem.run_bind, run_eqGuard_agg w op t x y vs.toArray us.toArray hg.2, Result.andThen_ok]
      split at hq
      ·exact ⟨_, .bool r, by rw [run_eql_struct, heq]; rfl, hq, by simp [Rep]⟩
      ·exact ⟨_, .bool (!r), by rw [run_neq_struct, heq]; rfl, hq, by simp [Rep]⟩
      ·exact hq.elim
     ·exact hq.elim
    ·exact hq.elim
   ·exact hq.elim
  | _ => exact hq.elim
 | sl n sz g =>
  cases b with
  | nils =>
   simp only [Rep] at ha hb
   subst hb
   obtain ⟨p, cap, rfl, hle, hr⟩ := ha
   refine xx hq fun h0 => ?_
   rcases hr with hr | ⟨ad, rfl, _⟩
   ·omega
   ·rfl
  | _ => exact hq.elim
 | osl i sz off n =>
  cases b with
  | nils =>
   simp only [Rep] at ha hb
   subst hb
   obtain ⟨e, _, _, p, cap, rfl, hle, hr⟩ := ha
   refine xx hq fun h0 => ?_
   rcases hr with hr | ⟨ad, _, rfl, _⟩
   ·omega
   ·rfl
  | _ => exact hq.elim
 | _ => exact hq.elim
theorem Uz {op : UnOp} {a : AV} {va : Value} {Q : AV → Prop} (ha : Rep own w a σ va) (hq : (unX op a).holds Q) :
  ∃ r v, (Op.unary op va).run P w = .ok v w ∧ Q r ∧ Rep own w r σ v := by
 cases a with
 | bool b =>
  simp only [Rep] at ha; subst ha
  simp only [unX] at hq
  split at hq
  ·exact ⟨_, _, by simp [Op.unary]; rfl, hq, by simp [Rep]⟩
  ·exact hq.elim
 | int k n =>
  simp only [Rep] at ha; subst ha
  simp only [unX] at hq
  split at hq
  ·obtain ⟨h1, h2⟩ := hq
   exact ⟨_, _, by simp [Op.unary, Op.intArith, vn h1]; rfl, h2 h1, by simp [Rep]⟩
  ·exact hq.elim
 | _ => exact hq.elim
theorem KK {t : TypeId} {ty : TypeId} {a : AV} {va : Value} {Q : AV → Prop} (ha : Rep own w a σ va) (hq : (lenX P t a).holds Q) :
  ∃ r v, (Builtin.len_ #[t] ty #[va]).run P w = .ok v w ∧ Q r ∧ Rep own w r σ v := by
 cases a with
 | str s =>
  simp only [Rep] at ha; subst ha
  simp only [lenX] at hq
  split at hq
  ·rename_i hu
   exact ⟨_, _, by simp [Builtin.len_, run_underlying hu, goInt]; rfl, hq, by simp [Rep, ByteArray.size]⟩
  ·exact hq.elim
 | nils =>
  simp only [Rep] at ha; subst ha
  simp only [lenX] at hq
  split at hq
  ·rename_i hu
   exact ⟨_, _, by simp [Builtin.len_, run_underlying hu, goInt]; rfl, hq, by simp [Rep]⟩
  ·exact hq.elim
 | sl n sz g =>
  simp only [Rep] at ha
  obtain ⟨a, cap, rfl, _⟩ := ha
  simp only [lenX] at hq
  split at hq
  ·rename_i hu
   exact ⟨_, _, by simp [Builtin.len_, run_underlying hu, goInt]; rfl, hq, by simp [Rep]⟩
  ·exact hq.elim
 | osl i sz off n =>
  simp only [Rep] at ha
  obtain ⟨e, he, hl, a, cap, rfl, _⟩ := ha
  simp only [lenX] at hq
  split at hq
  ·rename_i hu
   exact ⟨_, _, by simp [Builtin.len_, run_underlying hu, goInt]; rfl, hq, by simp [Rep]⟩
  ·exact hq.elim
 | _ => exact hq.elim
theorem jY {s : Bool} {n cap : Nat} {l h : Option AV} {vl vh : Option Value} {Q : Nat × Nat → Prop}
  (hl : ∀ a, l = some a → ∃ v, vl = some v ∧ Rep own w a σ v) (hl0 : l = none → vl = none) (hh : ∀ a, h = some a → ∃ v, vh = some v ∧ Rep own w a σ v) (hh0 : h = none → vh = none)
  (hc : n ≤ cap) (hq : (xu n l h).holds Q) :
  ∃ a b, (Instr.sliceBounds s n cap vl vh none).run P w = .ok (a, b, cap) w ∧ Q (a, b) ∧ a ≤ b ∧ b ≤ n := by
 cases l with
 | none =>
  rw [hl0 rfl]
  cases h with
  | none =>
   rw [hh0 rfl]
   exact ⟨0, n, by simp [Instr.sliceBounds], hq, by omega, by omega⟩
  | some b =>
   obtain ⟨v, rfl, hv⟩ := hh b rfl
   cases b <;> try exact hq.elim
   rename_i k m
   simp only [Rep] at hv; subst hv
   obtain ⟨h1, h2⟩ := hq
   refine ⟨0, m.toNat, ?_, h2 h1, by omega, by omega⟩
   have : 0 ≤ m ∧ m ≤ cap := by omega
   simp [Instr.sliceBounds, Instr.sliceBound, asIntOf, this]
 | some a =>
  obtain ⟨va, rfl, hva⟩ := hl a rfl
  cases h with
  | none =>
   rw [hh0 rfl]
   cases a <;> try exact hq.elim
   rename_i k m
   simp only [Rep] at hva; subst hva
   obtain ⟨h1, h2⟩ := hq
   refine ⟨m.toNat, n, ?_, h2 h1, by omega, by omega⟩
   simp [Instr.sliceBounds, Instr.sliceBound, asIntOf, h1]
  | some b =>
   obtain ⟨v, rfl, hv⟩ := hh b rfl
   cases a <;> try exact hq.elim
   rename_i k m
   cases b <;> try exact hq.elim
   rename_i k' m'
   simp only [Rep] at hva hv; subst hva; subst hv
   obtain ⟨h1, h2⟩ := hq
   refine ⟨m.toNat, m'.toNat, ?_, h2 h1, by omega, by omega⟩
   have e1 : 0 ≤ m' ∧ m' ≤ cap := by omega
   have e2 : 0 ≤ m ∧ m ≤ (m'.toNat : Int) := by omega
   simp [Instr.sliceBounds, Instr.sliceBound, asIntOf, e1, e2]
   intro h; omega
end
end Go.Sx
end

/- Slices, indexes, conversions, composite literals; and all value operations in one. -/
section
namespace Go.Sx
variable [Stat]
section
variable {own : Nat → Prop} {w : World} {σ : List SE} {P : Program}
theorem VZ {ρ : Operand → AV} {ρc : Operand → Value} (h : ∀ x, Rep own w (ρ x) σ (ρc x)) (l : Option Operand) :
  (∀ a, l.map ρ = some a → ∃ v, l.map ρc = some v ∧ Rep own w a σ v) ∧ (l.map ρ = none → l.map ρc = none) := by
 cases l with
 | none => exact ⟨fun a h => by simp at h, fun _ => rfl⟩
 | some x => exact ⟨fun a ha => by simp at ha; subst ha; exact ⟨_, rfl, h x⟩, fun h => by simp at h⟩
theorem J5 {t : TypeId} {ρ : Operand → AV} {ρc : Operand → Value} (hρ : ∀ x, Rep own w (ρ x) σ (ρc x)) {l h : Option Operand} {a : AV} {va : Value} {Q : AV → Prop}
  (ha : Rep own w a σ va) (hq : (xN P t (l.map ρ) (h.map ρ) a).holds Q) :
  ∃ r v, (Instr.sliceAt t va (l.map ρc) (h.map ρc) none).run P w = .ok v w ∧ Q r ∧ Rep own w r σ v := by
 obtain ⟨l1, l2⟩ := VZ hρ l
 obtain ⟨h1, h2⟩ := VZ hρ h
 cases a with
 | str s =>
  simp only [Rep] at ha; subst ha
  simp only [xN] at hq
  split at hq
  ·rename_i hu
   obtain ⟨x, y, e1, e2, e3, e4⟩ := jY (P := P) (s := false) (cap := s.length) l1 l2 h1 h2 (Nat.le_refl _) (Tree.zi.1 hq)
   refine ⟨_, _, ?_, e2, rfl⟩
   have es : (⟨s.toArray⟩ : ByteArray).size = s.length := by simp [ByteArray.size]
   simp only [Instr.sliceAt, Sem.run_bind, run_underlying hu, Result.andThen_ok, Instr.slice, es]
   simp only [Option.isSome, Bool.false_eq_true, if_false, Sem.run_bind, Sem.run_pure, Result.andThen_ok, e1]
   congr 2
   apply ByteArray.ext
   apply Array.ext'
   rw [List.drop_take]
   simp [List.extract_eq_drop_take']
  ·exact hq.elim
 | nils =>
  simp only [Rep] at ha; subst ha
  simp only [xN] at hq
  split at hq
  ·rename_i e hu
   split at hq
   ·rename_i hs
    obtain ⟨n, hs⟩ := Option.isSome_iff_exists.1 hs
    obtain ⟨x, y, e1, e2, e3, e4⟩ := jY (P := P) (s := true) (cap := 0) l1 l2 h1 h2 (Nat.le_refl _) (Tree.zi.1 hq)
    have hx : x = 0 := by omega
    have hy : y = 0 := by omega
    subst hx; subst hy
    refine ⟨_, .slice none 0 0, ?_, e2, by simp [Rep]⟩
    simp only [Instr.sliceAt, Sem.run_bind, run_underlying hu, Result.andThen_ok, Instr.slice, e1, zz hs, Sem.run_pure]
    simp
   ·exact hq.elim
  ·exact hq.elim
 | sl n sz g =>
  simp only [Rep] at ha
  obtain ⟨ad, cap, rfl, hc, hr⟩ := ha
  simp only [xN] at hq
  split at hq
  ·rename_i e hu
   split at hq
   ·rename_i hs
    obtain ⟨x, y, e1, e2, e3, e4⟩ := jY (P := P) (s := true) (cap := cap) l1 l2 h1 h2 hc (Tree.zi.1 hq)
    refine ⟨_, .slice (if cap = x then ad else ad.map (·.add (x * sz))) (y - x) (cap - x), ?_, e2, ?_⟩
    ·simp only [Instr.sliceAt, Sem.run_bind, run_underlying hu, Result.andThen_ok, Instr.slice, e1, zz hs, Sem.run_pure]
    ·simp only [Rep]
     refine ⟨_, _, rfl, by omega, ?_⟩
     by_cases hz : y - x = 0
     ·exact .inl hz
     ·rcases hr with hr | ⟨ad', rfl, hsp, hr⟩
      ·omega
      ·right
       rw [if_neg (by omega)]
       refine ⟨ad'.add (x * sz), rfl, by rw [add_plain hsp], fun j o hj ho => ?_⟩
       obtain ⟨h3, c, h4, h5⟩ := hr (x + j) o (by omega) ho
       rw [add_plain hsp]
       refine ⟨h3, c, ?_, h5⟩
       rw [← h4]
       dsimp only
       congr 2
       rw [Nat.add_mul]
       omega
   ·exact hq.elim
  ·exact hq.elim
 | osl i sz off n =>
  simp only [Rep] at ha
  obtain ⟨e0, he0, hl0, ad, cap, rfl, hc, hr⟩ := ha
  simp only [xN] at hq
  split at hq
  ·rename_i e hu
   split at hq
   ·rename_i hs
    obtain ⟨x, y, e1, e2, e3, e4⟩ := jY (P := P) (s := true) (cap := cap) l1 l2 h1 h2 hc (Tree.zi.1 hq)
    refine ⟨_, .slice (if cap = x then ad else ad.map (·.add (x * sz))) (y - x) (cap - x), ?_, e2, ?_⟩
    ·simp only [Instr.sliceAt, Sem.run_bind, run_underlying hu, Result.andThen_ok, Instr.slice, e1, zz hs, Sem.run_pure]
    ·simp only [Rep]
     refine ⟨e0, he0, by omega, _, _, rfl, by omega, ?_⟩
     by_cases hz : cap - x = 0
     ·exact .inl hz
     ·rcases hr with hr | ⟨ad', ha', rfl, cs, el, hcs, hsz⟩
      ·omega
      ·right
       rw [if_neg (by omega)]
       refine ⟨ad', ha', ?_, cs, el, hcs, ?_⟩
       ·simp only [Option.map]
        rw [add_plain rfl]
        simp only [Nat.add_mul, Nat.add_assoc]
       ·have : off + x + (cap - x) = off + cap := by omega
        rw [this]; exact hsz
   ·exact hq.elim
  ·exact hq.elim
 | _ => exact hq.elim
theorem Zs {t : TypeId} {a i : AV} {va vi : Value} {Q : AV → Prop} (ha : Rep own w a σ va) (hi : Rep own w i σ vi) (hq : (ka P t i a).holds Q) :
  ∃ r v, (Instr.indexAt t va vi).run P w = .ok v w ∧ Q r ∧ Rep own w r σ v := by
 cases a with
 | sl n sz g =>
  simp only [Rep] at ha
  obtain ⟨ad, cap, rfl, hc, hr⟩ := ha
  simp only [ka] at hq
  split at hq
  ·rename_i e k m hu
   simp only [Rep] at hi; subst hi
   split at hq
   ·rename_i hs
    obtain ⟨hb, hq⟩ := hq
    have hq := hq hb
    rcases hr with hr | ⟨ad', rfl, hsp, hr⟩
    ·omega
    refine ⟨_, .pointer (some (ad'.add (m.toNat * sz))), ?_, hq, ?_⟩
    ·simp only [Instr.indexAt, Sem.run_bind, asIntOf, Sem.run_pure, Result.andThen_ok, run_underlying hu, hb, and_self, if_true, zz hs]
    ·simp only [Rep]
     refine ⟨_, rfl, by rw [add_plain hsp], fun o ho => ?_⟩
     obtain ⟨h3, c, h4, _, h5⟩ := hr m.toNat o (by omega) ho
     rw [add_plain hsp]
     exact ⟨h3, c, by rw [← h4]; simp [Nat.add_assoc], h5⟩
   ·exact hq.elim
  ·exact hq.elim
 | osl b sz off n =>
  simp only [Rep] at ha
  obtain ⟨e0, he0, hl0, ad, cap, rfl, hc, hr⟩ := ha
  simp only [ka] at hq
  split at hq
  ·rename_i e k m hu
   simp only [Rep] at hi; subst hi
   split at hq
   ·rename_i hs
    obtain ⟨hb, hq⟩ := hq
    have hq := hq hb
    rcases hr with hr | ⟨ad', ha', rfl, cs, el, hcs, hsz⟩
    ·omega
    refine ⟨_, .pointer (some ((⟨ad'.block, ad'.off + off * sz, none⟩ : Addr).add (m.toNat * sz))), ?_, hq, ?_⟩
    ·simp only [Instr.indexAt, Sem.run_bind, asIntOf, Sem.run_pure, Result.andThen_ok, run_underlying hu, hb, and_self, if_true, zz hs]
    ·simp only [Rep]
     refine ⟨e0, ad', he0, ha', by omega, ?_⟩
     rw [add_plain rfl]
     simp only [Nat.add_mul, Nat.add_assoc, Nat.add_zero]
   ·exact hq.elim
  ·exact hq.elim
 | ptr b off =>
  simp only [Rep] at ha
  obtain ⟨e0, ad', he0, ha', rfl⟩ := ha
  simp only [ka] at hq
  split at hq
  ·rename_i len e k m hu
   simp only [Rep] at hi; subst hi
   split at hq
   ·rename_i sz hs
    obtain ⟨hb, hq⟩ := hq
    have hq := hq hb
    refine ⟨_, .pointer (some ((⟨ad'.block, ad'.off + off, none⟩ : Addr).add (m.toNat * sz))), ?_, hq, ?_⟩
    ·simp only [Instr.indexAt, Sem.run_bind, asIntOf, Sem.run_pure, Result.andThen_ok, run_underlying hu, Instr.sureAddr, hb, and_self, if_true, zz hs]
    ·simp only [Rep]
     refine ⟨e0, ad', he0, ha', ?_⟩
     rw [add_plain rfl]
     simp only [Nat.add_assoc]
   ·exact hq.elim
  ·exact hq.elim
 | _ => exact hq.elim
theorem JV {t : TypeId} {a i : AV} {va vi : Value} {Q : AV → Prop} (ha : Rep own w a σ va) (hi : Rep own w i σ vi) (hq : (Je P t i a).holds Q) :
  ∃ r v, (Instr.index t va vi).run P w = .ok v w ∧ Q r ∧ Rep own w r σ v := by
 cases a with
 | str s =>
  simp only [Rep] at ha; subst ha
  simp only [Je] at hq
  split at hq
  ·rename_i k m hu
   simp only [Rep] at hi; subst hi
   obtain ⟨hb, hq⟩ := hq
   refine ⟨_, _, ?_, hq hb, rfl⟩
   have hlt : m.toNat < s.length := by omega
   have : (⟨s.toArray⟩ : ByteArray)[m.toNat]? = some (s.getD m.toNat 0) := by
    rw [getElem?_pos (⟨s.toArray⟩ : ByteArray) m.toNat (by simpa [ByteArray.size] using hlt)]
    have h0 : (⟨s.toArray⟩ : ByteArray)[m.toNat]'(by simpa [ByteArray.size] using hlt) = s.toArray[m.toNat]'(by simpa using hlt) := rfl
    rw [h0]; simp [hlt, List.getD]
   simp only [Instr.index, Sem.run_bind, asIntOf, Sem.run_pure, Result.andThen_ok, run_underlying hu, hb.1, if_true, this]
  ·exact hq.elim
 | agg cs =>
  simp only [Rep] at ha
  obtain ⟨vs, rfl, hr⟩ := ha
  simp only [Je] at hq
  split at hq
  ·rename_i len e k m hu
   simp only [Rep] at hi; subst hi
   split at hq
   ·rename_i sz b hs hb
    obtain ⟨hc, hq⟩ := hq
    have hq := hq hc
    obtain ⟨r, v, hQ, hR, h1, h2⟩ := xa (hr.cut (m.toNat * sz) sz) hq
    refine ⟨r, v, ?_, hQ, hR⟩
    simp only [Instr.index, Sem.run_bind, asIntOf, Sem.run_pure, Result.andThen_ok, run_underlying hu, hc.1, hc.2.1, and_self, if_true, zz hs, part, ku hb]
    cases b with
    | true =>
     have h3 := h1 rfl
     subst h3
     rw [← Ws]
     simp only [if_true, Sem.run_bind, zz hs, Result.andThen_ok, Sem.run_pure]
    | false =>
     have h3 := h2 rfl
     have h4 : ((vs.drop (m.toNat * sz)).take sz)[0]? = some v := by rw [h3]; rfl
     have h5 := (yC h4).1
     simp only [Nat.add_zero] at h5
     simp [h5]
   ·exact hq.elim
  ·exact hq.elim
 | _ => exact hq.elim
theorem xY {h : Heap} (hh : HRep own w σ h) {a : AV} {va : Value} {n sz : Nat} {g : Nat → Nat → AV} (ha : Rep own w a σ va) (hs : jQ h a = some (n, sz, g)) :
  ∃ ad cap, va = .slice ad n cap ∧ n ≤ cap ∧ (n = 0 ∨ ∃ d, ad = some d ∧ d.spot = none ∧
   ∀ j o, j < n → o < sz → ∃ c, w.cell? ⟨d.block, d.off + (j * sz + o), none⟩ = some c ∧ c.oneCell' = true ∧ Rep own w (g j o) [] c) := by
 cases a with
 | nils =>
  simp only [Rep] at ha; subst ha
  simp only [jQ, Option.some.injEq, Prod.mk.injEq] at hs
  obtain ⟨rfl, rfl, rfl⟩ := hs
  exact ⟨none, 0, rfl, Nat.le_refl _, .inl rfl⟩
 | sl n' sz' g' =>
  simp only [jQ, Option.some.injEq, Prod.mk.injEq] at hs
  obtain ⟨rfl, rfl, rfl⟩ := hs
  simp only [Rep] at ha
  obtain ⟨ad, cap, rfl, hc, hr⟩ := ha
  refine ⟨ad, cap, rfl, hc, ?_⟩
  rcases hr with hr | ⟨d, h1, h2, h3⟩
  ·exact .inl hr
  ·exact .inr ⟨d, h1, h2, fun j o hj ho => (h3 j o hj ho).2⟩
 | osl i sz' off n' =>
  simp only [jQ] at hs
  split at hs
  ·rename_i N sz'' g' hb
   split at hs
   ·rename_i hz
    subst hz
    simp only [Option.some.injEq, Prod.mk.injEq] at hs
    obtain ⟨rfl, rfl, rfl⟩ := hs
    simp only [Rep] at ha
    obtain ⟨e, he, hl, ad, cap, rfl, hc, hr⟩ := ha
    refine ⟨ad, cap, rfl, hc, ?_⟩
    by_cases hn : n' = 0
    ·exact .inl hn
    ·right
     rcases hr with hr | ⟨ad', ha', rfl, cs, el, hcs, hsz⟩
     ·omega
     refine ⟨_, rfl, rfl, fun j o hj ho => ?_⟩
     obtain ⟨hen, hz | ⟨ad2, cs2, el2, ha2, hcs2, hsz2, hr2⟩⟩ := hh.blk i e _ he hb
     ·omega
     rw [ha'] at ha2; cases ha2
     rw [hcs] at hcs2; cases hcs2
     obtain ⟨c, h4, h5⟩ := hr2 (off + j) o (by omega) ho
     refine ⟨c, ?_, h5⟩
     refine vD hcs ?_
     rw [← h4]; dsimp only; congr 1; rw [Nat.add_mul]; omega
   ·cases hs
  ·cases hs
 | _ => simp [jQ] at hs
theorem X4 {ρc : Operand → Value} {o : Oper} {x : Operand} (ho : o.op = .nilCheck x) {a : AV} {Q : AV → Prop} (ha : Rep own w a σ (ρc x)) (hq : (nilX a).holds Q) :
  ∃ r v, (execOp ρc o).run P w = .ok (.value v) w ∧ Q r ∧ Rep own w r σ v := by
 cases a with
 | ptr i off =>
  have ha' := ha
  simp only [Rep] at ha
  obtain ⟨e, ad, he, had, hv⟩ := ha
  exact ⟨_, _, by simp only [execOp, ho]; rw [hv]; rfl, hq, by rw [hv] at ha'; exact ha'⟩
 | eptr i sz idx off =>
  have ha' := ha
  simp only [Rep] at ha
  obtain ⟨e, ad, he, had, hl, hv⟩ := ha
  exact ⟨_, _, by simp only [execOp, ho]; rw [hv]; rfl, hq, by rw [hv] at ha'; exact ha'⟩
 | iptr m g =>
  have ha' := ha
  simp only [Rep] at ha
  obtain ⟨ad, hv, _⟩ := ha
  exact ⟨_, _, by simp only [execOp, ho]; rw [hv]; rfl, hq, by rw [hv] at ha'; exact ha'⟩
 | fn f b c =>
  have ha' := ha
  simp only [Rep] at ha
  obtain ⟨va, vb, hv, _⟩ := ha
  exact ⟨_, _, by simp only [execOp, ho]; rw [hv]; rfl, hq, by rw [hv] at ha'; exact ha'⟩
 | _ => exact hq.elim
theorem fold_push : ∀ (l : List Int) (s : ByteArray), l.foldl (fun r n => r.push (UInt8.ofNat n.toNat)) s = ⟨s.data ++ (l.map fun n => UInt8.ofNat n.toNat).toArray⟩
 | [], s => by simp
 | a :: l, s => by
  simp only [List.foldl_cons, fold_push l]
  apply ByteArray.ext
  apply Array.ext'
  simp [ByteArray.push]
theorem Vi {h : Heap} (hh : HRep own w σ h) {src t : TypeId} {a : AV} {va : Value} {Q : AV → Prop} (ha : Rep own w a σ va) (hq : (Wt P h src t a).holds Q) :
  ∃ r v, (convert src t va).run P w = .ok v w ∧ Q r ∧ Rep own w r σ v := by
 cases a with
 | int k n =>
  simp only [Rep] at ha; subst ha
  simp only [Wt] at hq
  split at hq
  ·rename_i hs ht
   obtain ⟨h1, h2⟩ := hq
   exact ⟨_, _, by simp [convert, run_underlying hs, run_underlying ht, Conv.intToInt, vn h1]; rfl, h2 h1, by simp [Rep]⟩
  ·exact hq.elim
 | str s =>
  simp only [Rep] at ha; subst ha
  simp only [Wt] at hq
  split at hq
  ·rename_i hs ht
   exact ⟨_, _, by simp [convert, run_underlying hs, run_underlying ht]; rfl, hq, by simp [Rep]⟩
  ·exact hq.elim
 | _ =>
  simp only [Wt] at hq
  split at hq
  ·rename_i e hs ht
   split at hq
   ·rename_i n g he hsq
    obtain ⟨h1, h2⟩ := hq
    obtain ⟨ad, cap, rfl, hc, hr⟩ := xY hh ha hsq
    refine ⟨_, _, ?_, h2 h1, rfl⟩
    simp only [convert, Sem.run_bind, run_underlying hs, run_underlying ht, run_underlying he, Result.andThen_ok]
    cases ad with
    | none =>
     have hn : n = 0 := by rcases hr with hr | ⟨d, h, _⟩; exact hr; cases h
     subst hn
     rfl
    | some d =>
     have hl : (loadCells d n).run P w = .ok (((List.range n).map fun j => ((byteOf (g j 0)).toNat : Int)).map (Value.int .u8)).toArray w := by
      rcases hr with hr | ⟨d', h, hsp, hr⟩
      ·subst hr; rfl
      ·cases h
       rw [run_loadCells w d n (fun j => .int .u8 ((byteOf (g j 0)).toNat : Int)) (fun j hj => by
        obtain ⟨c, h3, _, h4⟩ := hr j 0 hj (by omega)
        obtain ⟨b, hb⟩ := h1 j hj
        rw [hb] at h4 ⊢
        simp only [Rep] at h4
        subst h4
        rw [add_plain hsp]
        rw [show d.off + (j * 1 + 0) = d.off + j by omega] at h3
        rw [h3]
        simp [byteOf])]
       simp
     have := run_bytesToString (P := P) w d n cap _ hl
     rw [this, fold_push]
     congr 3
     simp [vP, Function.comp_def]
   ·exact hq.elim
  ·exact hq.elim
end
end Go.Sx
end

/- Constants, zero values, composite literals; all value operations in one. -/
section
namespace Go.Sx
variable [Stat]
section
variable {own : Nat → Prop} {w : World} {σ : List SE} {P : Program}
theorem xD (v : Value) : Rep own w (xQ v) σ v := by
 cases v with
 | slice a n c => cases a <;> cases n <;> cases c <;> simp [xQ, Rep]
 | pointer a => cases a <;> simp [xQ, Rep]
 | _ => simp [xQ, Rep]
theorem wX (v : Value) : Rep own w (yu v) σ v := by
 cases v with
 | agg cs =>
  simp only [yu, Rep]
  exact ⟨cs.toList, by simp, zq.2 ⟨by simp, fun i a v ha hv => by
   simp only [List.getElem?_map, hv, Option.map_some, Option.some.injEq] at ha
   subst ha; exact xD v⟩⟩
 | _ => simp only [yu]; exact xD _
theorem js {a : AV} {v : Value} {cs : List AV} (hc : cellsOf a = some cs) (h : Rep own w a σ v) : RepL own w cs σ v.cells.toList := by
 cases a with
 | agg l =>
  simp only [cellsOf, Option.some.injEq] at hc; subst hc
  simp only [Rep] at h
  obtain ⟨vs, rfl, hr⟩ := h
  simpa [Value.cells] using hr
 | undef => simp [cellsOf] at hc
 | opt _ _ _ => simp [cellsOf] at hc
 | sl n sz g =>
  simp only [cellsOf, Option.some.injEq] at hc; subst hc
  have h' := h
  simp only [Rep] at h'
  obtain ⟨a, cap, rfl, _⟩ := h'
  simp only [Value.cells, RepL]; exact ⟨_, _, rfl, h, rfl⟩
 | osl i sz off n =>
  simp only [cellsOf, Option.some.injEq] at hc; subst hc
  have h' := h
  simp only [Rep] at h'
  obtain ⟨e, he, hl, a, cap, rfl, _⟩ := h'
  simp only [Value.cells, RepL]; exact ⟨_, _, rfl, h, rfl⟩
 | ptr i off =>
  simp only [cellsOf, Option.some.injEq] at hc; subst hc
  have h' := h
  simp only [Rep] at h'
  obtain ⟨e, ad, he, had, rfl⟩ := h'
  simp only [Value.cells, RepL]; exact ⟨_, _, rfl, h, rfl⟩
 | eptr i sz idx off =>
  simp only [cellsOf, Option.some.injEq] at hc; subst hc
  have h' := h
  simp only [Rep] at h'
  obtain ⟨e, ad, he, had, hl, rfl⟩ := h'
  simp only [Value.cells, RepL]; exact ⟨_, _, rfl, h, rfl⟩
 | iptr m g =>
  simp only [cellsOf, Option.some.injEq] at hc; subst hc
  have h' := h
  simp only [Rep] at h'
  obtain ⟨ad, rfl, _⟩ := h'
  simp only [Value.cells, RepL]; exact ⟨_, _, rfl, h, rfl⟩
 | tup l =>
  simp only [cellsOf, Option.some.injEq] at hc; subst hc
  have h' := h
  simp only [Rep] at h'
  obtain ⟨vs, rfl, hr⟩ := h'
  simp only [Value.cells, RepL]; exact ⟨_, _, rfl, h, rfl⟩
 | fn f a b =>
  simp only [cellsOf, Option.some.injEq] at hc; subst hc
  have h' := h
  simp only [Rep] at h'
  obtain ⟨va, vb, rfl, hr⟩ := h'
  simp only [Value.cells, RepL]; exact ⟨_, _, rfl, h, rfl⟩
 | mp k ag sz ks has get =>
  simp only [cellsOf, Option.some.injEq] at hc; subst hc
  have h' := h
  simp only [Rep] at h'
  obtain ⟨b, es, clock, rfl, hr⟩ := h'
  simp only [Value.cells, RepL]; exact ⟨_, _, rfl, h, rfl⟩
 | _ =>
  simp only [cellsOf, Option.some.injEq] at hc; subst hc
  have h' := h
  simp only [Rep] at h'
  subst h'
  simp only [Value.cells, RepL]; exact ⟨_, _, rfl, h, rfl⟩
theorem wE {t : TypeId} {cs : List AV} (h : zeroCells P t = some cs) : ∃ v, (zeroValue t).run P w = .ok v w ∧ RepL own w cs σ v.cells.toList := by
 unfold zeroCells at h
 split at h
 ·rename_i i hi
  split at h
  ·rename_i v hv
   refine ⟨v, ?_, js h (wX v)⟩
   simp [zeroValue, run_typeInfo w hi, hv]
  ·cases h
 ·cases h
theorem RepL.setAt {l new : List AV} {vs nv : List Value} {off : Nat} (h : RepL own w l σ vs) (hn : RepL own w new σ nv) (hle : off + new.length ≤ l.length) :
  RepL own w (setAt l off new) σ (vs.take off ++ nv ++ vs.drop (off + nv.length)) := by
 have := hn.length
 unfold Go.Sx.setAt
 rw [this]
 exact ((h.tak off).app hn).app (h.drp _)
theorem ZV (off : Nat) : ∀ (l : List Value) (k : Nat) (cells : Array Value), off + k + l.length ≤ cells.size →
  ((l.zipIdx k).foldl (fun cs (x : Value × Nat) => cs.setIfInBounds (off + x.2) x.1) cells).toList = cells.toList.take (off + k) ++ l ++ cells.toList.drop (off + k + l.length)
 | [], k, cells, h => by simp
 | a :: l, k, cells, h => by
  simp only [List.length_cons] at h
  simp only [List.zipIdx_cons, List.foldl_cons]
  rw [ZV off l (k + 1) _ (by simp; omega)]
  simp only [Array.toList_setIfInBounds, List.length_cons]
  have h1 : (cells.toList.set (off + k) a).take (off + (k + 1)) = cells.toList.take (off + k) ++ [a] := by
   rw [show off + (k + 1) = off + k + 1 by omega, List.take_succ_eq_append_getElem (by simp; omega)]
   simp [List.take_set_of_le]
  have h2 : (cells.toList.set (off + k) a).drop (off + (k + 1) + l.length) = cells.toList.drop (off + k + (l.length + 1)) := by
   rw [List.drop_set_of_lt (by omega)]
   congr 1; omega
  rw [h1, h2]
  simp
theorem wA {place placeX : Nat → Option (Nat × Nat)} (hp : ∀ i x, placeX i = some x → place i = some x) : ∀ (parts : List (Nat × AV)) (vparts : List (Nat × Value)) (cells : List AV) (vcells : Array Value) (out : List AV),
  vparts.length = parts.length → (∀ (i : Nat) p q, parts[i]? = some p → vparts[i]? = some q → p.1 = q.1 ∧ Rep own w p.2 σ q.2) →
  RepL own w cells σ vcells.toList → w7 placeX cells parts = some out →
  ∃ vout, Instr.fill place vcells vparts = some vout ∧ RepL own w out σ vout.toList
 | [], vparts, cells, vcells, out, hl, hr, hc, h => by
  have : vparts = [] := by simpa using hl
  subst this
  simp only [w7, Option.some.injEq] at h; subst h
  exact ⟨vcells, rfl, hc⟩
 | (i, v) :: rest, vparts, cells, vcells, out, hl, hr, hc, h => by
  match vparts, hl with
  | (i', v') :: vrest, hl =>
   obtain ⟨h1, h2⟩ := hr 0 (i, v) (i', v') (by simp) (by simp)
   simp only at h1 h2
   subst h1
   simp only [w7] at h
   split at h
   ·cases h
   ·rename_i off size hpl
    split at h
    ·rename_i cv hcv
     split at h
     ·rename_i hle
      have hcs := js hcv h2
      have hlen := hcs.length
      have hlc := hc.length
      simp only [Array.length_toList] at hlen hlc
      have hset := hc.setAt hcs (off := off) (by omega)
      have hfold := ZV off v'.cells.toList 0 vcells (by simp; omega)
      simp only [Nat.add_zero] at hfold
      rw [← hfold] at hset
      obtain ⟨vout, h3, h4⟩ := wA hp rest vrest _ _ out (by simpa using hl) (fun i p q hx hy => hr (i + 1) p q (by simpa using hx) (by simpa using hy)) hset h
      refine ⟨vout, ?_, h4⟩
      simp only [Instr.fill, hp i _ hpl]
      rw [if_neg (by simp; omega)]
      rw [← h3]
      congr 1
      rw [← Array.foldl_toList]
      simp
     ·cases h
    ·cases h
theorem JD {α β : Type} {f : α → Sem β} {g : α → β} : ∀ (l : List α), (∀ x ∈ l, (f x).run P w = .ok (g x) w) → (l.mapM f).run P w = .ok (l.map g) w
 | [], _ => by simp
 | a :: l, h => by
  simp only [List.mapM_cons, Sem.run_bind, h a (by simp), Result.andThen_ok, JD l (fun x hx => h x (by simp [hx])), Sem.run_pure, List.map_cons]
theorem JR {t : TypeId} {parts : Array (Nat × Operand)} {ρ : Operand → AV} {ρc : Operand → Value} (hρ : ∀ x, Rep own w (ρ x) σ (ρc x)) {Q : AV → Prop}
  (hq : (WU P t (parts.toList.map fun p => (p.1, ρ p.2))).holds Q) :
  ∃ r v, (Instr.build t (parts.map fun (i, x) => (i, ρc x))).run P w = .ok v w ∧ Q r ∧ Rep own w r σ v := by
 have hparts : ∀ (i : Nat) (p : Nat × AV) (q : Nat × Value), (parts.toList.map fun p => (p.1, ρ p.2))[i]? = some p → ((parts.map fun (i, x) => (i, ρc x)).toList)[i]? = some q → p.1 = q.1 ∧ Rep own w p.2 σ q.2 := by
  intro i p q hp hq
  simp only [List.getElem?_map, Array.toList_map] at hp hq
  cases hx : parts.toList[i]? with
  | none => simp [hx] at hp
  | some x =>
   simp only [hx, Option.map_some, Option.some.injEq] at hp hq
   subst hp; subst hq
   exact ⟨rfl, hρ x.2⟩
 simp only [WU] at hq
 split at hq
 ·rename_i fs hu
  split at hq
  ·rename_i cs hz
   split at hq
   ·rename_i out hf
    split at hq
    ·rename_i hall
     obtain ⟨v, hv, hr⟩ := wE (P := P) (own := own) (w := w) (σ := σ) hz
     have hsz : ∀ f ∈ fs.toList, ((do pure (f.offset, ← sizeOf f.type) : Sem (Nat × Nat))).run P w = .ok (f.offset, (qg P f.type).getD 0) w := by
      intro f hf
      have := Array.all_eq_true'.1 hall f (by simpa using hf)
      obtain ⟨n, hn⟩ := Option.isSome_iff_exists.1 this
      simp [zz hn, hn]
     have hm := JD (P := P) (w := w) fs.toList hsz
     obtain ⟨vout, h3, h4⟩ := wA (place := fun i => (fs.map fun f => (f.offset, (qg P f.type).getD 0))[i]?) (fun i x hx => by
      simp only [Array.getElem?_map]
      split at hx
      ·rename_i f hf
       simp only [hf, Option.map_some]
       cases hs : qg P f.type with
       | none => simp [hs] at hx
       | some n => simp [hs] at hx ⊢; exact hx
      ·cases hx) _ (parts.map fun (i, x) => (i, ρc x)).toList cs v.cells out (by simp) hparts hr hf
     refine ⟨_, .agg vout, ?_, hq, by simp only [Rep]; exact ⟨vout.toList, by simp, h4⟩⟩
     have hm' : (fs.mapM fun f => (do pure (f.offset, ← sizeOf f.type) : Sem (Nat × Nat))).run P w = .ok (fs.map fun f => (f.offset, (qg P f.type).getD 0)) w := by
      obtain ⟨l⟩ := fs
      rw [List.mapM_toArray]
      simp only [Sem.run_map, hm]
      simp
     simp only [Instr.build, Sem.run_bind, hv, Result.andThen_ok, run_underlying hu, hm', h3, Sem.run_pure]
    ·exact hq.elim
   ·exact hq.elim
  ·exact hq.elim
 ·rename_i n e hu
  split at hq
  ·rename_i cs sz hz hs
   split at hq
   ·rename_i out hf
    obtain ⟨v, hv, hr⟩ := wE (P := P) (own := own) (w := w) (σ := σ) hz
    obtain ⟨vout, h3, h4⟩ := wA (fun i x hx => hx) _ (parts.map fun (i, x) => (i, ρc x)).toList cs v.cells out (by simp) hparts hr hf
    refine ⟨_, .agg vout, ?_, hq, by simp only [Rep]; exact ⟨vout.toList, by simp, h4⟩⟩
    simp only [Instr.build, Sem.run_bind, hv, Result.andThen_ok, run_underlying hu, zz hs, h3, Sem.run_pure]
   ·exact hq.elim
  ·exact hq.elim
 ·exact hq.elim
end
end Go.Sx
end

/- The operations that make or turn memory. -/
section
namespace Go.Sx
variable [Stat]
open Go.RowKit (Below)
def z6 : List Nat → AV → AV
 | [], a => a
 | i :: k, a => z6 k (zY i a)
section
variable {own O : Nat → Prop} {w : World} {σ : List SE} {P : Program}
theorem vX {i : Nat} : ∀ {a : AV} {v : Value}, Rep own w a σ v → Rep own w (jd i a) σ v := by
 intro a v h
 cases a <;> simp only [jd] <;> (try exact h) <;> (try (simp only [Rep])) <;> (try (split <;> first | exact h | (simp only [Rep])))
theorem RepL.map {f : AV → AV} (hf : ∀ a v, Rep own w a σ v → Rep own w (f a) σ v) {l : List AV} {vs : List Value} (h : RepL own w l σ vs) : RepL own w (l.map f) σ vs := by
 refine zq.2 ⟨by simp [h.length], fun i a v ha hv => ?_⟩
 simp only [List.getElem?_map] at ha
 cases hl : l[i]? with
 | none => simp [hl] at ha
 | some x =>
  simp only [hl, Option.map_some, Option.some.injEq] at ha
  subst ha
  exact hf _ _ ((zq.1 h).2 i x v hl hv)
theorem JC {i : Nat} {a : AV} {v : Value} (h : Rep own w a σ v) : Rep own w (zY i a) σ v := by
 cases a with
 | agg cs =>
  simp only [Rep, zY] at h ⊢
  obtain ⟨vs, hv, hr⟩ := h
  exact ⟨vs, hv, hr.map fun _ _ h => vX h⟩
 | tup cs =>
  simp only [Rep, zY] at h ⊢
  obtain ⟨vs, hv, hr⟩ := h
  exact ⟨vs, hv, hr.map fun _ _ h => vX h⟩
 | _ => simp only [zY]; exact vX (i := i) h
theorem qq {K : List Nat} : ∀ {l : List AV}, NoHL K l ↔ ∀ a ∈ l, NoH K a
 | [] => by simp [NoHL]
 | a :: l => by simp [NoHL, qq (l := l)]
theorem yd (i : Nat) (a : AV) : NoH [i] (jd i a) := by
 cases a <;> simp only [jd] <;> (try (simp [NoH]; done)) <;> (try (split <;> simp_all [NoH, NoHL] <;> omega))
theorem KE (i : Nat) (a : AV) : NoH [i] (zY i a) := by
 cases a with
 | agg cs => simp only [zY, NoH]; exact qq.2 fun x hx => by obtain ⟨y, _, rfl⟩ := List.mem_map.1 hx; exact yd i y
 | tup cs => simp only [zY, NoH]; exact qq.2 fun x hx => by obtain ⟨y, _, rfl⟩ := List.mem_map.1 hx; exact yd i y
 | _ => simp only [zY]; exact yd i _
theorem kj {K : List Nat} (i : Nat) {a : AV} (h : NoH K a) : NoH K (jd i a) := by
 cases a <;> simp only [jd] <;> (try exact h) <;> (try (simp [NoH]; done)) <;> (try (split <;> first | exact h | (simp [NoH, NoHL])))
theorem Wa {K : List Nat} (i : Nat) {a : AV} (h : NoH K a) : NoH K (zY i a) := by
 cases a with
 | agg cs => simp only [zY, NoH] at h ⊢; exact qq.2 fun x hx => by obtain ⟨y, hy, rfl⟩ := List.mem_map.1 hx; exact kj i (qq.1 h y hy)
 | tup cs => simp only [zY, NoH] at h ⊢; exact qq.2 fun x hx => by obtain ⟨y, hy, rfl⟩ := List.mem_map.1 hx; exact kj i (qq.1 h y hy)
 | _ => simp only [zY]; exact kj i h
theorem Yu {i : Nat} {K : List Nat} : ∀ {a : AV}, NoH [i] a → NoH K a → NoH (i :: K) a := by
 intro a
 induction a using AV.rec (motive_2 := fun l => NoHL [i] l → NoHL K l → NoHL (i :: K) l) <;> simp_all [NoH, NoHL]
theorem jV : ∀ {K : List Nat} {a : AV} {v : Value}, Rep own w a σ v → Rep own w (z6 K a) σ v
 | [], _, _, h => h
 | i :: k, _, _, h => jV (K := k) (JC h)
theorem xI {K : List Nat} : ∀ {L : List Nat} {a : AV}, NoH K a → NoH K (z6 L a)
 | [], _, h => h
 | i :: k, _, h => xI (L := k) (Wa i h)
theorem kL : ∀ (K : List Nat) (a : AV), NoH K (z6 K a)
 | [], a => jG a
 | i :: k, a => show NoH (i :: k) (z6 k (zY i a)) from Yu (xI (KE i a)) (kL k _)
theorem jv : ∀ (K : List Nat) (ts : List AV), wQ K ts = ts.map (z6 K)
 | [], ts => by
  have : z6 [] = id := rfl
  simp [wQ, this]
 | i :: k, ts => by
  simp only [wQ, jv k, List.map_map]
  rfl
def jR (K : List Nat) : Blk → Blk
 | .box cs => .box (cs.map (z6 K))
 | b => b
theorem zQ : ∀ (K : List Nat) (h : Heap), zL K h = h.map (jR K)
 | [], h => by
  have : jR [] = id := funext fun b => by cases b <;> simp [jR]; exact List.map_id _
  simp [zL, this]
 | i :: k, h => by
  simp only [zL, zQ k, List.map_map]
  congr 1
  funext b
  cases b <;> simp [jR, zcu, Function.comp_def, z6]
structure Post (O : Nat → Prop) (w : World) (σ : List SE) (h : Heap) (r : Res) (v : Value) (w' : World) (σ' : List SE) : Prop where
 rep : Rep (Own O σ') w' r.val σ' v
 ext : Ext (Own O σ) w (Own O σ') w'
 hp : HRep (Own O σ') w' σ' (zm (zL r.kill h) r.eff)
 hold : Hold r.kill w σ w' σ'
 good : Good O w' σ'
 kD : ∀ b, O b → b < w.heap.size → w'.heap[b]? = w.heap[b]?
 fr : ∀ (i : Nat) (e : SE) (ad : Addr), σ[i]? = some e → e.ad = some ad → i ∉ r.eff.map (·.1) → w'.heap[ad.block]? = w.heap[ad.block]?
theorem qC {K : List Nat} {o1 o2 : Nat → Prop} {w1 w2 : World} {σ1 σ2 : List SE} (hx : Ext o1 w1 o2 w2) (hh : Hold K w1 σ1 w2 σ2) {e : SE} {b : Blk} (hb : BRep o1 w1 σ1 e b)
  (hm : ∀ ad, e.ad = some ad → w2.heap[ad.block]? = w1.heap[ad.block]?) : BRep o2 w2 σ2 e (jR K b) := by
 cases b with
 | dead => trivial
 | box cells =>
  simp only [jR, BRep] at hb ⊢
  obtain ⟨ad, vs, el, had, h0, hcs, hr⟩ := hb
  exact ⟨ad, vs, el, had, h0, (hm ad had).trans hcs, qu hx hh _ vs (qq.2 fun x hx => by obtain ⟨y, _, rfl⟩ := List.mem_map.1 hx; exact kL K y) (hr.map fun _ _ h => jV h)⟩
 | arr n sz get =>
  simp only [jR, BRep] at hb ⊢
  obtain ⟨hn, hz | ⟨ad, cs, el, had, hcs, hsz, hr⟩⟩ := hb
  ·exact ⟨hn, .inl hz⟩
  ·refine ⟨hn, .inr ⟨ad, cs, el, had, (hm ad had).trans hcs, hsz, fun j o hj ho => ?_⟩⟩
   obtain ⟨c, h1, h2, h3⟩ := hr j o hj ho
   exact ⟨c, h1, h2, zu hx _ _ h3⟩
theorem V3 {σ : List SE} {ad : Addr} {n : Nat} {b : Nat} : Own O (σ ++ [⟨some ad, n⟩]) b ↔ Own O σ b ∨ b = ad.block := by
 unfold Own
 constructor
 ·rintro (h | ⟨e, he, a, h1, h2⟩)
  ·exact .inl (.inl h)
  rcases List.mem_append.1 he with he | he
  ·exact .inl (.inr ⟨e, he, a, h1, h2⟩)
  ·simp at he; subst he; simp at h1; subst h1; exact .inr h2.symm
 ·rintro ((h | ⟨e, he, a, h1, h2⟩) | rfl)
  ·exact .inl h
  ·exact .inr ⟨e, List.mem_append.2 (.inl he), a, h1, h2⟩
  ·exact .inr ⟨_, List.mem_append.2 (.inr (List.mem_singleton.2 rfl)), ad, rfl, rfl⟩
theorem qb {h : Heap} (hh : HRep (Own O σ) w σ h) (o : Obj) (n : Nat) : Ext (Own O σ) w (Own O (σ ++ [⟨some ⟨w.heap.size, 0, none⟩, n⟩])) (w.alloc o) where
 os := rfl
 tape := rfl
 output := rfl
 size := by simp
 keep b hb _ := Below.heap_alloc w o b hb
 grow b hb := by
  rcases V3.1 hb with h | h
  ·exact .inl h
  ·exact .inr (Nat.le_of_eq h.symm)
theorem qy {h : Heap} (hh : HRep (Own O σ) w σ h) (o : Obj) (x : SE) : Hold [] w σ (w.alloc o) (σ ++ [x]) := by
 intro i e he _
 refine ⟨by rw [List.getElem?_append_left (List.getElem?_eq_some_iff.1 he).1]; exact he, fun ad had cs el hcs => ⟨cs, el, ?_, rfl⟩⟩
 rw [Below.heap_alloc w o _ (hh.lt i e ad he had)]; exact hcs
theorem qN (b : Blk) : jR [] b = b := by
 cases b <;> simp [jR]
 have : z6 [] = id := rfl
 rw [this]; simp
theorem wu {h : Heap} (hh : HRep (Own O σ) w σ h) {cs : Array Value} {el : TypeId} {n : Nat} {B : Blk}
  (hB : BRep (Own O (σ ++ [⟨some ⟨w.heap.size, 0, none⟩, n⟩])) (w.alloc (.cells cs el)) (σ ++ [⟨some ⟨w.heap.size, 0, none⟩, n⟩]) ⟨some ⟨w.heap.size, 0, none⟩, n⟩ B) :
  HRep (Own O (σ ++ [⟨some ⟨w.heap.size, 0, none⟩, n⟩])) (w.alloc (.cells cs el)) (σ ++ [⟨some ⟨w.heap.size, 0, none⟩, n⟩]) (h ++ [B]) := by
 have hget : ∀ (i : Nat) (e : SE), (σ ++ [(⟨some ⟨w.heap.size, 0, none⟩, n⟩ : SE)])[i]? = some e → σ[i]? = some e ∨ (i = σ.length ∧ e = ⟨some ⟨w.heap.size, 0, none⟩, n⟩) := by
  intro i e he
  rw [List.getElem?_append] at he
  split at he
  ·exact .inl he
  ·rename_i hi
   right
   have : i - σ.length = 0 := by
    have := (List.getElem?_eq_some_iff.1 he).1
    simp at this; omega
   rw [this] at he
   simp at he
   exact ⟨by omega, he.symm⟩
 refine ⟨by simp [hh.len], ?_, ?_, ?_⟩
 ·intro i j e f a b he hf ha hb hne
  rcases hget i e he with he | ⟨hi, rfl⟩ <;> rcases hget j f hf with hf | ⟨hj, rfl⟩
  ·exact hh.inj i j e f a b he hf ha hb hne
  ·have := hh.lt i e a he ha
   cases hb; simp; omega
  ·have := hh.lt j f b hf hb
   cases ha; simp; omega
  ·omega
 ·intro i e a he ha
  rcases hget i e he with he | ⟨hi, rfl⟩
  ·have := hh.lt i e a he ha
   simp; omega
  ·cases ha; simp
 ·intro i e b he hb
  rcases hget i e he with he | ⟨hi, rfl⟩
  ·rw [List.getElem?_append_left (by rw [← hh.len]; exact (List.getElem?_eq_some_iff.1 he).1)] at hb
   have := qC (qb hh (.cells cs el) n) (qy hh (.cells cs el) ⟨some ⟨w.heap.size, 0, none⟩, n⟩) (hh.blk i e b he hb) (fun ad had => Below.heap_alloc w _ _ (hh.lt i e ad he had))
   rwa [qN] at this
  ·rw [List.getElem?_append_right (by rw [← hh.len]; omega), ← hh.len, hi] at hb
   simp at hb
   subst hb
   exact hB
structure Turn (w w' : World) (b : Nat) : Prop where
 os : w'.os = w.os
 tape : w'.tape = w.tape
 output : w'.output = w.output
 size : w'.heap.size = w.heap.size
 other : ∀ k, k ≠ b → w'.heap[k]? = w.heap[k]?
theorem vT (w : World) (b : Nat) (cs : Array Value) : Turn w (w.setRow b cs) b := ⟨rfl, rfl, rfl, by simp, fun k hk => setRow_other w b k cs hk⟩
theorem jz {w' : World} {b : Nat} (ht : Turn w w' b) (hb : Own O σ b) : Ext (Own O σ) w (Own O σ) w' :=
 ⟨ht.os, ht.tape, ht.output, Nat.le_of_eq ht.size.symm, fun k hk hn => ht.other k (fun e => hn (e ▸ hb)), fun k hk => .inl hk⟩
theorem vm {w' : World} {b : Nat} (ht : Turn w w' b) (hs : ∀ cs el, w.heap[b]? = some (.cells cs el (0, 0)) → ∃ cs' el', w'.heap[b]? = some (.cells cs' el' (0, 0)) ∧ cs'.size = cs.size) : Hold [] w σ w' σ := by
 intro i e he _
 refine ⟨he, fun ad had cs el hcs => ?_⟩
 by_cases h : ad.block = b
 ·subst h; exact hs cs el hcs
 ·exact ⟨cs, el, (ht.other _ h).trans hcs, rfl⟩
theorem Qc {w' : World} {h : Heap} {i : Nat} {e : SE} {ad : Addr} {B : Blk} (hh : HRep (Own O σ) w σ h) (he : σ[i]? = some e) (had : e.ad = some ad) (ht : Turn w w' ad.block)
  (hs : ∀ cs el, w.heap[ad.block]? = some (.cells cs el (0, 0)) → ∃ cs' el', w'.heap[ad.block]? = some (.cells cs' el' (0, 0)) ∧ cs'.size = cs.size)
  (hB : BRep (Own O σ) w' σ e B) : HRep (Own O σ) w' σ (qa h i B) := by
 have hi : i < h.length := by rw [← hh.len]; exact (List.getElem?_eq_some_iff.1 he).1
 have hown : Own O σ ad.block := .inr ⟨e, List.mem_of_getElem? he, ad, had, rfl⟩
 simp only [qa, if_pos hi]
 refine ⟨by simp [hh.len], hh.inj, fun j f a hf ha => by rw [ht.size]; exact hh.lt j f a hf ha, ?_⟩
 intro j f b hf hb
 rw [List.getElem?_set] at hb
 split at hb
 ·rename_i hij
  subst hij
  simp at hb
  obtain ⟨_, rfl⟩ := hb
  rw [he] at hf; cases hf
  exact hB
 ·rename_i hij
  have := qC (jz ht hown) (vm ht hs) (hh.blk j f b hf hb) (fun a ha => ht.other _ (hh.inj j i f e a ad hf he ha had (fun h => hij h.symm)))
  rwa [qN] at this
theorem w5 {a : AV} {v : Value} (h1 : oneA a = true) (h : Rep own w a σ v) : v.oneCell' = true := by
 cases a with
 | sl n sz g => simp only [Rep] at h; obtain ⟨a, cap, rfl, _⟩ := h; rfl
 | osl i sz off n => simp only [Rep] at h; obtain ⟨e, he, hl, a, cap, rfl, _⟩ := h; rfl
 | ptr i off => simp only [Rep] at h; obtain ⟨e, ad, he, had, rfl⟩ := h; rfl
 | eptr i sz idx off => simp only [Rep] at h; obtain ⟨e, ad, he, had, hl, rfl⟩ := h; rfl
 | iptr m g => simp only [Rep] at h; obtain ⟨ad, rfl, _⟩ := h; rfl
 | fn f a b => simp only [Rep] at h; obtain ⟨va, vb, rfl, _⟩ := h; rfl
 | mp k ag sz ks has get => simp only [Rep] at h; obtain ⟨b, es, clock, rfl, _⟩ := h; rfl
 | agg _ => simp [oneA] at h1
 | tup _ => simp [oneA] at h1
 | undef => simp [oneA] at h1
 | opt _ _ _ => simp [oneA] at h1
 | _ => simp only [Rep] at h; subst h; rfl
theorem wI {h : Heap} (hh : HRep (Own O σ) w σ h) (hg : Good O w σ) (o : Obj) (n : Nat) : Good O (w.alloc o) (σ ++ [⟨some ⟨w.heap.size, 0, none⟩, n⟩]) := by
 refine ⟨fun b hb => by have := hg.old b hb; simp; omega, fun i e ad he had hO => ?_, hg.stat.ext (qb hh o n)⟩
 rw [List.getElem?_append] at he
 split at he
 ·exact hg.dis i e ad he had hO
 ·have : i - σ.length = 0 := by
   have := (List.getElem?_eq_some_iff.1 he).1
   simp at this; omega
  rw [this] at he
  simp at he
  subst he
  simp at had
  subst had
  have := hg.old _ hO
  simp at this
theorem yq {h : Heap} (hg : Good O w σ) (hh : HRep (Own O σ) w σ h) {cs : List AV} {vs : List Value} {el : TypeId} (hr : RepL (Own O σ) w cs σ vs) :
  Post O w σ h ⟨.ptr h.length 0, [(h.length, .box cs)], []⟩ (.pointer (some ⟨w.heap.size, 0, none⟩)) (w.alloc (.cells vs.toArray el)) (σ ++ [⟨some ⟨w.heap.size, 0, none⟩, 0⟩]) where
 rep := by
  simp only [Rep]
  exact ⟨⟨some ⟨w.heap.size, 0, none⟩, 0⟩, ⟨w.heap.size, 0, none⟩, by rw [← hh.len]; simp, rfl, by simp⟩
 ext := qb hh _ _
 hold := qy hh _ _
 good := wI hh hg _ _
 kD b _ hb := Below.heap_alloc w _ b hb
 fr i e ad he had _ := Below.heap_alloc w _ _ (hh.lt i e ad he had)
 hp := by
  simp only [zL, zm, qa, Nat.lt_irrefl, if_false]
  exact wu hh (by
   simp only [BRep]
   exact ⟨_, vs, el, rfl, rfl, heap_alloc_new w _, qu (qb hh _ 0) (qy hh _ _) _ _ (jy _) hr⟩)
def frzS (K : List Nat) (σ : List SE) : List SE := σ.zipIdx.map fun p => if K.contains p.2 then ⟨none, 0⟩ else p.1
theorem jP (K : List Nat) (σ : List SE) (i : Nat) : (frzS K σ)[i]? = (σ[i]?).map fun e => if K.contains i then ⟨none, 0⟩ else e := by
 simp only [frzS, List.getElem?_map, List.getElem?_zipIdx]
 cases σ[i]? <;> simp
theorem yZ {K : List Nat} {b : Nat} (h : Own O (frzS K σ) b) : O b ∨ ∃ i e ad, σ[i]? = some e ∧ i ∉ K ∧ e.ad = some ad ∧ ad.block = b := by
 rcases h with h | ⟨e, he, ad, h1, h2⟩
 ·exact .inl h
 right
 obtain ⟨i, hi⟩ := List.mem_iff_getElem?.1 he
 rw [jP] at hi
 cases hs : σ[i]? with
 | none => simp [hs] at hi
 | some e' =>
  simp only [hs, Option.map_some, Option.some.injEq] at hi
  split at hi
  ·subst hi; simp at h1
  ·rename_i hk
   subst hi
   exact ⟨i, e', ad, hs, by simpa using hk, h1, h2⟩
theorem vU {K : List Nat} {b : Nat} (h : Own O (frzS K σ) b) : Own O σ b := by
 rcases yZ h with h | ⟨i, e, ad, h1, _, h2, h3⟩
 ·exact .inl h
 ·exact .inr ⟨e, List.mem_of_getElem? h1, ad, h2, h3⟩
theorem wg (K : List Nat) (w : World) (σ : List SE) : Ext (Own O σ) w (Own O (frzS K σ)) w := ⟨rfl, rfl, rfl, Nat.le_refl _, fun _ _ _ => rfl, fun _ h => .inl (vU h)⟩
theorem Zi (K : List Nat) (hg : Good O w σ) : Good O w (frzS K σ) := by
 refine ⟨hg.old, fun i e ad he had => ?_, hg.stat.ext (wg K w σ)⟩
 rw [jP] at he
 cases hs : σ[i]? with
 | none => simp [hs] at he
 | some e' =>
  simp only [hs, Option.map_some, Option.some.injEq] at he
  split at he
  ·subst he; simp at had
  ·subst he; exact hg.dis i e' ad hs had
theorem Zh (K : List Nat) (w : World) (σ : List SE) : Hold K w σ w (frzS K σ) := by
 intro i e he hk
 refine ⟨by rw [jP, he]; simp [hk], fun _ _ cs el h => ⟨cs, el, h, rfl⟩⟩
def kG (K : List Nat) (h : Heap) : Heap := h.zipIdx.map fun p => if K.contains p.2 then .dead else p.1
theorem wo (K : List Nat) (h : Heap) (i : Nat) : (kG K h)[i]? = (h[i]?).map fun e => if K.contains i then .dead else e := by
 simp only [kG, List.getElem?_map, List.getElem?_zipIdx]
 cases h[i]? <;> simp
theorem yO {h : Heap} (hh : HRep (Own O σ) w σ h) (K : List Nat) : HRep (Own O (frzS K σ)) w (frzS K σ) (kG K (zL K h)) := by
 have hget : ∀ (i : Nat) (e : SE), (frzS K σ)[i]? = some e → (i ∈ K ∧ e = ⟨none, 0⟩) ∨ (i ∉ K ∧ σ[i]? = some e) := by
  intro i e he
  rw [jP] at he
  cases hs : σ[i]? with
  | none => simp [hs] at he
  | some e' =>
   simp only [hs, Option.map_some, Option.some.injEq] at he
   split at he
   ·rename_i hk; exact .inl ⟨by simpa using hk, he.symm⟩
   ·rename_i hk; subst he; exact .inr ⟨by simpa using hk, rfl⟩
 refine ⟨by simp [frzS, kG, zQ, hh.len], ?_, ?_, ?_⟩
 ·intro i j e f a b he hf ha hb hne
  rcases hget i e he with ⟨_, rfl⟩ | ⟨_, he⟩
  ·cases ha
  rcases hget j f hf with ⟨_, rfl⟩ | ⟨_, hf⟩
  ·cases hb
  exact hh.inj i j e f a b he hf ha hb hne
 ·intro i e a he ha
  rcases hget i e he with ⟨_, rfl⟩ | ⟨_, he⟩
  ·cases ha
  exact hh.lt i e a he ha
 ·intro i e b he hb
  rw [wo, zQ, List.getElem?_map] at hb
  cases hx : h[i]? with
  | none => simp [hx] at hb
  | some b' =>
   simp only [hx, Option.map_some, Option.some.injEq] at hb
   rcases hget i e he with ⟨hk, rfl⟩ | ⟨hk, he⟩
   ·rw [if_pos (by simpa using hk)] at hb
    subst hb; trivial
   ·rw [if_neg (by simpa using hk)] at hb
    subst hb
    exact qC (wg K w σ) (Zh K w σ) (hh.blk i e b' he hx) (fun _ _ => rfl)
theorem uh : ∀ (K : List Nat) (h : Heap), (∀ i ∈ K, i < h.length) → zm h (kn K) = kG K h
 | [], h, _ => by
  simp only [kn, List.map_nil, zm]
  apply List.ext_getElem?
  intro i
  rw [wo]
  cases h[i]? <;> simp
 | k :: K, h, hk => by
  have h1 := hk k (by simp)
  have : zm h (kn (k :: K)) = zm (h.set k .dead) (kn K) := by
   simp [kn, zm, qa, h1]
  rw [this, uh K _ (fun i hi => by simpa using hk i (by simp [hi]))]
  apply List.ext_getElem?
  intro i
  rw [wo, wo, List.getElem?_set]
  by_cases hik : k = i
  ·subst hik
   simp [h1]
  ·cases hx : h[i]? with
   | none => simp [hik, hx]
   | some b =>
    simp only [if_neg hik, hx, Option.map_some, Option.some.injEq]
    have : ((k :: K).contains i) = (K.contains i) := by simp [Ne.symm hik]
    rw [this]
theorem kS {h : Heap} (hg : Good O w σ) (hh : HRep (Own O σ) w σ h) {a a' : AV} {v : Value} {k K : List Nat} (ha : Rep (Own O σ) w a σ v) (hf : frz1 h a = some (a', k)) (hk : ∀ i ∈ k, i ∈ K) :
  Rep (Own O (frzS K σ)) w a' [] v ∧ oneA a' = true ∧ ∀ i ∈ k, i < h.length := by
 cases a with
 | osl i sz off n =>
  have ha' := ha
  simp only [frz1] at hf
  split at hf
  ·rename_i n' sz' g hs
   simp only [Option.some.injEq, Prod.mk.injEq] at hf
   obtain ⟨rfl, rfl⟩ := hf
   simp only [Rep] at ha
   obtain ⟨e, he, hl, a0, cap0, hv, hc0, hr0⟩ := ha
   obtain ⟨ad, cap, rfl, hc, hr⟩ := xY hh ha' hs
   simp only [Value.slice.injEq] at hv
   obtain ⟨rfl, rfl, rfl⟩ := hv
   refine ⟨?_, rfl, fun j hj => by simp at hj; subst hj; rw [← hh.len]; exact (List.getElem?_eq_some_iff.1 he).1⟩
   simp only [Rep]
   refine ⟨ad, cap, rfl, hc, ?_⟩
   rcases hr with hr | ⟨d, hd, hsp, hr⟩
   ·exact .inl hr
   ·refine .inr ⟨d, hd, hsp, fun j o hj ho => ?_⟩
    obtain ⟨c, h1, h2, h3⟩ := hr j o hj ho
    refine ⟨fun hown => ?_, c, h1, h2, zu (wg K w σ) _ _ h3⟩
    rcases hr0 with hr0 | ⟨ad2, h8, h9, _⟩
    ·omega
    ·rw [hd] at h9
     cases h9
     rcases yZ hown with hO | ⟨i', e', ad', h4, h5, h6, h7⟩
     ·exact hg.dis i e ad2 he h8 hO
     exact hh.inj i' i e' e ad' ad2 h4 he h6 h8 (fun hii => h5 (hii ▸ hk i (by simp))) h7
  ·cases hf
 | ptr _ _ => simp [frz1] at hf
 | eptr _ _ _ _ => simp [frz1] at hf
 | agg _ => simp [frz1] at hf
 | tup _ => simp [frz1] at hf
 | opt _ _ _ => simp [frz1] at hf
 | undef => simp [frz1] at hf
 | fn f x y =>
  match x, y, hf with
  | [], [], hf =>
   simp only [frz1, Option.some.injEq, Prod.mk.injEq] at hf
   obtain ⟨rfl, rfl⟩ := hf
   refine ⟨?_, rfl, by simp⟩
   simp only [Rep] at ha ⊢
   obtain ⟨va, vb, hv, h1, h2⟩ := ha
   exact ⟨va, vb, hv, by simpa [RepL] using h1, by simpa [RepL] using h2⟩
  | [], _ :: _, hf => simp [frz1] at hf
  | _ :: _, _, hf => simp [frz1] at hf
 | sl n sz g =>
  simp only [frz1, Option.some.injEq, Prod.mk.injEq] at hf
  obtain ⟨rfl, rfl⟩ := hf
  exact ⟨zu (wg K w σ) _ _ (by simpa only [Rep] using ha), rfl, by simp⟩
 | iptr m g =>
  simp only [frz1, Option.some.injEq, Prod.mk.injEq] at hf
  obtain ⟨rfl, rfl⟩ := hf
  exact ⟨zu (wg K w σ) _ _ (by simpa only [Rep] using ha), rfl, by simp⟩
 | mp k ag sz ks has get =>
  simp only [frz1, Option.some.injEq, Prod.mk.injEq] at hf
  obtain ⟨rfl, rfl⟩ := hf
  exact ⟨zu (wg K w σ) _ _ (by simpa only [Rep] using ha), rfl, by simp⟩
 | _ =>
  simp only [frz1, Option.some.injEq, Prod.mk.injEq] at hf
  obtain ⟨rfl, rfl⟩ := hf
  exact ⟨by simpa only [Rep] using ha, rfl, by simp⟩
theorem w6 {h : Heap} (hg : Good O w σ) (hh : HRep (Own O σ) w σ h) : ∀ {l l' : List AV} {vs : List Value} {k K : List Nat}, RepL (Own O σ) w l σ vs → frzL h l = some (l', k) → (∀ i ∈ k, i ∈ K) →
  RepL (Own O (frzS K σ)) w l' [] vs ∧ (∀ a ∈ l', oneA a = true) ∧ ∀ i ∈ k, i < h.length
 | [], l', vs, k, K, hr, hf, hk => by
  simp only [frzL, Option.some.injEq, Prod.mk.injEq] at hf
  obtain ⟨rfl, rfl⟩ := hf
  exact ⟨by simpa [RepL] using hr, by simp, by simp⟩
 | a :: l, l', vs, k, K, hr, hf, hk => by
  simp only [frzL] at hf
  split at hf
  ·rename_i a' i l2 k2 h1 h2
   simp only [Option.some.injEq, Prod.mk.injEq] at hf
   obtain ⟨rfl, rfl⟩ := hf
   simp only [RepL] at hr ⊢
   obtain ⟨v, r, rfl, h3, h4⟩ := hr
   obtain ⟨h5, h6, h7⟩ := kS hg hh h3 h1 (K := K) (fun i hi => hk i (by simp [hi]))
   obtain ⟨h8, h9, h10⟩ := w6 hg hh h4 h2 (K := K) (fun i hi => hk i (by simp [hi]))
   refine ⟨⟨v, r, rfl, h5, h8⟩, ?_, ?_⟩
   ·intro x hx
    rcases List.mem_cons.1 hx with rfl | hx
    ·exact h6
    ·exact h9 x hx
   ·intro x hx
    rcases List.mem_append.1 hx with hx | hx
    ·exact h7 x hx
    ·exact h10 x hx
  ·cases hf
end
end Go.Sx
end

/- Slices that are made, stores, appends. -/
section
namespace Go.Sx
variable [Stat]
open Go.RowKit (Below)
section
variable {O : Nat → Prop} {w : World} {σ : List SE} {P : Program}
theorem Hold.W3 {K : List Nat} {w1 w2 w3 : World} {σ1 σ2 σ3 : List SE} (h : Hold K w1 σ1 w2 σ2) (k : Hold [] w2 σ2 w3 σ3) : Hold K w1 σ1 w3 σ3 := by
 intro i e he hk
 obtain ⟨h1, h2⟩ := h i e he hk
 obtain ⟨h3, h4⟩ := k i e h1 (by simp)
 refine ⟨h3, fun ad had cs el hcs => ?_⟩
 obtain ⟨cs', el', h5, h6⟩ := h2 ad had cs el hcs
 obtain ⟨cs'', el'', h7, h8⟩ := h4 ad had cs' el' h5
 exact ⟨cs'', el'', h7, by omega⟩
theorem ur {l : List AV} : ∀ (n i : Nat), i < n * l.length → (List.replicate n l).flatten[i]? = l[i % l.length]?
 | 0, i, h => by simp at h
 | n + 1, i, h => by
  rw [List.replicate_succ, List.flatten_cons, List.getElem?_append]
  split
  ·rename_i hi; rw [Nat.mod_eq_of_lt hi]
  ·rename_i hi
   rw [ur n _ (by rw [Nat.succ_mul] at h; omega)]
   congr 1
   rw [← Nat.mod_eq_sub_mod (by omega)]
theorem YT {own : Nat → Prop} {w : World} {σ : List SE} {b : Nat} {vs : List Value} {el : TypeId} {n sz : Nat} {cs : List AV} (hm : w.heap[b]? = some (.cells vs.toArray el (0, 0))) (hl : cs.length = n * sz)
  (hr : RepL own w cs [] vs) (h1 : ∀ a ∈ cs, oneA a = true) : BRep own w σ ⟨some ⟨b, 0, none⟩, n⟩ (.arr n sz (zj sz cs)) := by
 simp only [BRep]
 refine ⟨by trivial, .inr ⟨_, _, _, rfl, hm, by simp [hr.length, hl], fun j o hj ho => ?_⟩⟩
 have hlt : j * sz + o < cs.length := by
  rw [hl]
  have : (j + 1) * sz ≤ n * sz := Nat.mul_le_mul_right _ (by omega)
  rw [Nat.succ_mul] at this; omega
 obtain ⟨v, hv, hR⟩ := hr.get (List.getElem?_eq_getElem hlt)
 refine ⟨v, by simpa using hv, w5 (h1 _ (List.getElem_mem hlt)) hR, ?_⟩
 simp only [zj, List.getD, List.getElem?_eq_getElem hlt, Option.getD_some]
 exact hR
theorem u3 {h : Heap} (hg : Good O w σ) (hh : HRep (Own O σ) w σ h) {t e : TypeId} {len sz : Nat} {parts : Array (Nat × Operand)} {zs cs : List AV} {ρ : Operand → AV} {ρc : Operand → Value} (hρ : ∀ x, Rep (Own O σ) w (ρ x) σ (ρc x))
  (hu : P.underlying t = some (.slice e)) (hz : zeroCells P e = some zs) (hs : qg P e = some sz) (hlen : len * sz ≤ 16777216) (hzl : zs.length = sz)
  (hf : w7 (fun i => some (i * sz, sz)) (List.replicate len zs).flatten (parts.toList.map fun p => (p.1, ρ p.2)) = some cs) :
  ∃ v w' σ', (Instr.buildSlice t len (parts.map fun (i, x) => (i, ρc x))).run P w = .ok v w' ∧ Post O w σ h ⟨.osl h.length sz 0 len, [(h.length, .box cs)], []⟩ v w' σ' := by
 obtain ⟨zv, hzv, hzr⟩ := wE (P := P) (own := Own O σ) (w := w) (σ := σ) hz
 have hzsz : zv.cells.size = sz := by have := hzr.length; simpa [hzl] using this
 have hparts : ∀ (i : Nat) (p : Nat × AV) (q : Nat × Value), (parts.toList.map fun p => (p.1, ρ p.2))[i]? = some p → ((parts.map fun (i, x) => (i, ρc x)).toList)[i]? = some q → p.1 = q.1 ∧ Rep (Own O σ) w p.2 σ q.2 := by
  intro i p q hp hq
  simp only [List.getElem?_map, Array.toList_map] at hp hq
  cases hx : parts.toList[i]? with
  | none => simp [hx] at hp
  | some x =>
   simp only [hx, Option.map_some, Option.some.injEq] at hp hq
   subst hp; subst hq
   exact ⟨rfl, hρ x.2⟩
 have hinit : RepL (Own O σ) w (List.replicate len zs).flatten σ ((Array.range (len * sz)).map (zv.cells[· % zv.cells.size]!)).toList := by
  refine zq.2 ⟨by simp [hzl], fun i a v ha hv => ?_⟩
  have hi : i < len * sz := by
   have := (List.getElem?_eq_some_iff.1 ha).1
   simpa [hzl] using this
  rw [ur len i (by rw [hzl]; exact hi)] at ha
  have hpos : 0 < sz := by
   rcases Nat.eq_zero_or_pos sz with h0 | h0
   ·subst h0; simp at hi
   ·exact h0
  have hmod : i % sz < zv.cells.size := by rw [hzsz]; exact Nat.mod_lt _ hpos
  have hv' : zv.cells.toList[i % zs.length]? = some v := by
   simp only [Array.toList_map, List.getElem?_map, Array.toList_range, List.getElem?_range hi, Option.map_some, Option.some.injEq] at hv
   rw [hzsz] at hv
   rw [hzl]
   have hpos' : zv.cells[i % sz]! = zv.cells[i % sz] := getElem!_pos zv.cells (i % sz) hmod
   rw [hpos'] at hv
   subst hv
   simp [List.getElem?_eq_getElem (show i % sz < zv.cells.toList.length by simpa using hmod)]
  exact (zq.1 hzr).2 _ a v ha hv'
 obtain ⟨vout, h3, h4⟩ := wA (place := fun i => some (i * sz, sz)) (fun i x hx => hx) _ (parts.map fun (i, x) => (i, ρc x)).toList _ _ cs (by simp) hparts hinit hf
 have hclen : cs.length = len * sz := by
  have e2 := h4.length
  have e3 : cs.length = (List.replicate len zs).flatten.length := by
   have := hinit.length
   have : ∀ (parts : List (Nat × AV)) (c c' : List AV), w7 (fun i => some (i * sz, sz)) c parts = some c' → c'.length = c.length := by
    intro parts
    induction parts with
    | nil => intro c c' h; simp only [w7, Option.some.injEq] at h; subst h; rfl
    | cons p parts ih =>
     intro c c' h
     obtain ⟨i, v⟩ := p
     simp only [w7] at h
     split at h
     ·rename_i cv hcv
      split at h
      ·rename_i hle
       rw [ih _ _ h]
       simp [setAt]; omega
      ·cases h
     ·cases h
   exact this _ _ _ hf
  simp [hzl] at e3
  omega
 refine ⟨.slice (some ⟨w.heap.size, 0, none⟩) len len, w.alloc (.cells vout e), σ ++ [⟨some ⟨w.heap.size, 0, none⟩, len⟩], ?_, ?_⟩
 ·have hnot : ¬ (len * sz > 2 ^ 24) := by omega
  simp only [Instr.buildSlice, Sem.run_bind, run_underlying hu, Result.andThen_ok, zz hs, if_neg hnot]
  by_cases h0 : len * sz = 0
  ·have hrow : (Array.range (len * sz)).map ((#[] : Array Value)[· % (#[] : Array Value).size]!) = (Array.range (len * sz)).map (zv.cells[· % zv.cells.size]!) := by rw [h0]; simp
   rw [if_pos h0]
   simp only [Sem.run_bind, Sem.run_pure, Result.andThen_ok]
   rw [hrow, h3]
   simp [newRow]
  ·rw [if_neg h0]
   simp only [Sem.run_bind, Sem.run_pure, Result.andThen_ok, hzv]
   rw [h3]
   simp [newRow]
 ·refine ⟨?_, ?_, ?_, ?_, wI hh hg _ _, fun b _ hb => Below.heap_alloc w _ b hb, fun i e ad he had _ => Below.heap_alloc w _ _ (hh.lt i e ad he had)⟩
  ·simp only [Rep]
   refine ⟨⟨some ⟨w.heap.size, 0, none⟩, len⟩, ?_, by simp, _, _, rfl, Nat.le_refl _, .inr ⟨_, rfl, by simp, vout, e, heap_alloc_new w _, ?_⟩⟩
   ·rw [← hh.len]; simp
   ·have := h4.length
    simp at this ⊢; omega
  ·exact qb hh _ _
  ·simp only [zL, zm, qa, Nat.lt_irrefl, if_false]
   exact wu hh (by
    simp only [BRep]
    exact ⟨_, vout.toList, e, rfl, rfl, by simpa using heap_alloc_new w (.cells vout e), qu (qb hh _ len) (qy hh _ _) _ _ (jy _) h4⟩)
  ·exact qy hh _ _
theorem ya {h : Heap} (hg : Good O w σ) (hh : HRep (Own O σ) w σ h) {t e : TypeId} {len sz : Nat} {parts : Array (Nat × Operand)} {zs cs cs' : List AV} {k : List Nat} {ρ : Operand → AV} {ρc : Operand → Value} (hρ : ∀ x, Rep (Own O σ) w (ρ x) σ (ρc x))
  (hu : P.underlying t = some (.slice e)) (hz : zeroCells P e = some zs) (hs : qg P e = some sz) (hlen : len * sz ≤ 16777216) (hzl : zs.length = sz)
  (hf : w7 (fun i => some (i * sz, sz)) (List.replicate len zs).flatten (parts.toList.map fun p => (p.1, ρ p.2)) = some cs) (hfr : frzL h cs = some (cs', k)) :
  ∃ v w' σ', (Instr.buildSlice t len (parts.map fun (i, x) => (i, ρc x))).run P w = .ok v w' ∧ Post O w σ h ⟨.osl h.length sz 0 len, (h.length, .arr len sz (zj sz cs')) :: kn k, k⟩ v w' σ' := by
 obtain ⟨zv, hzv, hzr⟩ := wE (P := P) (own := Own O σ) (w := w) (σ := σ) hz
 have hzsz : zv.cells.size = sz := by have := hzr.length; simpa [hzl] using this
 have hparts : ∀ (i : Nat) (p : Nat × AV) (q : Nat × Value), (parts.toList.map fun p => (p.1, ρ p.2))[i]? = some p → ((parts.map fun (i, x) => (i, ρc x)).toList)[i]? = some q → p.1 = q.1 ∧ Rep (Own O σ) w p.2 σ q.2 := by
  intro i p q hp hq
  simp only [List.getElem?_map, Array.toList_map] at hp hq
  cases hx : parts.toList[i]? with
  | none => simp [hx] at hp
  | some x =>
   simp only [hx, Option.map_some, Option.some.injEq] at hp hq
   subst hp; subst hq
   exact ⟨rfl, hρ x.2⟩
 have hinit : RepL (Own O σ) w (List.replicate len zs).flatten σ ((Array.range (len * sz)).map (zv.cells[· % zv.cells.size]!)).toList := by
  refine zq.2 ⟨by simp [hzl], fun i a v ha hv => ?_⟩
  have hi : i < len * sz := by
   have := (List.getElem?_eq_some_iff.1 ha).1
   simpa [hzl] using this
  rw [ur len i (by rw [hzl]; exact hi)] at ha
  have hpos : 0 < sz := by
   rcases Nat.eq_zero_or_pos sz with h0 | h0
   ·subst h0; simp at hi
   ·exact h0
  have hmod : i % sz < zv.cells.size := by rw [hzsz]; exact Nat.mod_lt _ hpos
  have hv' : zv.cells.toList[i % zs.length]? = some v := by
   simp only [Array.toList_map, List.getElem?_map, Array.toList_range, List.getElem?_range hi, Option.map_some, Option.some.injEq] at hv
   rw [hzsz] at hv
   rw [hzl]
   have hpos' : zv.cells[i % sz]! = zv.cells[i % sz] := getElem!_pos zv.cells (i % sz) hmod
   rw [hpos'] at hv
   subst hv
   simp [List.getElem?_eq_getElem (show i % sz < zv.cells.toList.length by simpa using hmod)]
  exact (zq.1 hzr).2 _ a v ha hv'
 obtain ⟨vout, h3, h4⟩ := wA (place := fun i => some (i * sz, sz)) (fun i x hx => hx) _ (parts.map fun (i, x) => (i, ρc x)).toList _ _ cs (by simp) hparts hinit hf
 obtain ⟨h5, h6, h7⟩ := w6 hg hh h4 hfr (K := k) (fun i hi => hi)
 have hclen : cs'.length = len * sz := by
  have e1 := h5.length
  have e2 := h4.length
  have e3 : cs.length = (List.replicate len zs).flatten.length := by
   have := hinit.length
   have : ∀ (parts : List (Nat × AV)) (c c' : List AV), w7 (fun i => some (i * sz, sz)) c parts = some c' → c'.length = c.length := by
    intro parts
    induction parts with
    | nil => intro c c' h; simp only [w7, Option.some.injEq] at h; subst h; rfl
    | cons p parts ih =>
     intro c c' h
     obtain ⟨i, v⟩ := p
     simp only [w7] at h
     split at h
     ·rename_i cv hcv
      split at h
      ·rename_i hle
       rw [ih _ _ h]
       simp [setAt]; omega
      ·cases h
     ·cases h
   exact this _ _ _ hf
  simp [hzl] at e3
  omega
 have hh1 := yO hh k
 have hg1 := Zi k hg
 refine ⟨.slice (some ⟨w.heap.size, 0, none⟩) len len, w.alloc (.cells vout e), frzS k σ ++ [⟨some ⟨w.heap.size, 0, none⟩, len⟩], ?_, ?_⟩
 ·have hnot : ¬ (len * sz > 2 ^ 24) := by omega
  simp only [Instr.buildSlice, Sem.run_bind, run_underlying hu, Result.andThen_ok, zz hs, if_neg hnot]
  by_cases h0 : len * sz = 0
  ·have hrow : (Array.range (len * sz)).map ((#[] : Array Value)[· % (#[] : Array Value).size]!) = (Array.range (len * sz)).map (zv.cells[· % zv.cells.size]!) := by rw [h0]; simp
   rw [if_pos h0]
   simp only [Sem.run_bind, Sem.run_pure, Result.andThen_ok]
   rw [hrow, h3]
   simp [newRow]
  ·rw [if_neg h0]
   simp only [Sem.run_bind, Sem.run_pure, Result.andThen_ok, hzv]
   rw [h3]
   simp [newRow]
 ·refine ⟨?_, ?_, ?_, ?_, wI (yO hh k) hg1 _ _, fun b _ hb => Below.heap_alloc w _ b hb, fun i e ad he had _ => Below.heap_alloc w _ _ (hh.lt i e ad he had)⟩
  ·simp only [Rep]
   refine ⟨⟨some ⟨w.heap.size, 0, none⟩, len⟩, ?_, by simp, _, _, rfl, Nat.le_refl _, .inr ⟨_, rfl, by simp, vout, e, heap_alloc_new w _, ?_⟩⟩
   ·rw [← hh.len, show σ.length = (frzS k σ).length by simp [frzS]]; simp
   ·have := h5.length
    simp at this ⊢; omega
  ·exact (wg k w σ).trans (qb hh1 _ _)
  ·have hle : ∀ i ∈ k, i < (zL k h ++ [Blk.arr len sz (zj sz cs')]).length := fun i hi => by simp [zQ]; have := h7 i hi; omega
   have : zm (zL k h) ((h.length, .arr len sz (zj sz cs')) :: kn k) = kG k (zL k h) ++ [Blk.arr len sz (zj sz cs')] := by
    have hl : (zL k h).length = h.length := by simp [zQ]
    simp only [zm, qa, ← hl, Nat.lt_irrefl, if_false]
    rw [uh _ _ (fun i hi => hle i hi)]
    simp only [kG, List.zipIdx_append, List.map_append, List.zipIdx_singleton, List.map_cons, List.map_nil, Nat.zero_add]
    congr 2
    rw [if_neg (by simp; intro hc; have := h7 _ hc; omega)]
   rw [this]
   exact wu hh1 (YT (by rw [heap_alloc_new]) hclen (wi (qb hh1 _ _) _ _ h5) h6)
  ·exact (Zh k w σ).W3 (qy hh1 _ _)
theorem uD {K : List Nat} {w' : World} {h : Heap} {i : Nat} {e e' : SE} {B : Blk} (hh : HRep (Own O σ) w σ h) (he : σ[i]? = some e) (hx : Ext (Own O σ) w (Own O (σ.set i e')) w') (hold : Hold K w σ w' (σ.set i e'))
  (hother : ∀ (j : Nat) (f : SE) (ad : Addr), j ≠ i → σ[j]? = some f → f.ad = some ad → w'.heap[ad.block]? = w.heap[ad.block]?)
  (hdis : ∀ (j : Nat) (f : SE) (ad ad' : Addr), j ≠ i → σ[j]? = some f → f.ad = some ad → e'.ad = some ad' → ad.block ≠ ad'.block)
  (hlt : ∀ ad', e'.ad = some ad' → ad'.block < w'.heap.size) (hB : BRep (Own O (σ.set i e')) w' (σ.set i e') e' B) :
  HRep (Own O (σ.set i e')) w' (σ.set i e') (qa (zL K h) i B) := by
 have hi : i < (zL K h).length := by simp [zQ, ← hh.len]; exact (List.getElem?_eq_some_iff.1 he).1
 have hget : ∀ (j : Nat) (f : SE), (σ.set i e')[j]? = some f → (j = i ∧ f = e') ∨ (j ≠ i ∧ σ[j]? = some f) := by
  intro j f hf
  rw [List.getElem?_set] at hf
  split at hf
  ·rename_i hij
   split at hf
   ·exact .inl ⟨hij.symm, (Option.some.inj hf).symm⟩
   ·cases hf
  ·rename_i hij; exact .inr ⟨fun h => hij h.symm, hf⟩
 simp only [qa, if_pos hi]
 refine ⟨by simp [zQ, hh.len], ?_, ?_, ?_⟩
 ·intro j k f g a b hf hk ha hb hne
  rcases hget j f hf with ⟨e1, e2⟩ | ⟨hj, hf'⟩ <;> rcases hget k g hk with ⟨e3, e4⟩ | ⟨hk', hk2⟩
  ·omega
  ·subst e2; exact fun h => hdis k g b a hk' hk2 hb ha h.symm
  ·subst e4; exact hdis j f a b hj hf' ha hb
  ·exact hh.inj j k f g a b hf' hk2 ha hb hne
 ·intro j f a hf ha
  rcases hget j f hf with ⟨rfl, rfl⟩ | ⟨hj, hf⟩
  ·exact hlt a ha
  ·exact Nat.lt_of_lt_of_le (hh.lt j f a hf ha) hx.size
 ·intro j f b hf hb
  rcases hget j f hf with ⟨rfl, rfl⟩ | ⟨hj, hf⟩
  ·rw [List.getElem?_set_self hi] at hb
   cases hb; exact hB
  ·rw [List.getElem?_set_ne (fun h => hj h.symm), zQ, List.getElem?_map] at hb
   cases hx' : h[j]? with
   | none => simp [hx'] at hb
   | some b' =>
    simp only [hx', Option.map_some, Option.some.injEq] at hb
    subst hb
    exact qC hx hold (hh.blk j f b' hf hx') (fun ad had => hother j f ad hj hf had)
theorem KW {h : Heap} (hg : Good O w σ) (hh : HRep (Own O σ) w σ h) {t : TypeId} {i off n : Nat} {cells cv : List AV} {va v : Value} (ha : Rep (Own O σ) w (.ptr i off) σ va) (hb : h[i]? = some (.box cells))
  (hn : qg P t = some n) (hr : RepL (Own O σ) w cv σ v.cells.toList) (hl : cv.length = n) (hle : off + n ≤ cells.length) (h1 : cv.all oneA = true) :
  ∃ w', (Instr.storeAt t va v).run P w = .ok () w' ∧ Post O w σ h ⟨.undef, [(i, .box (setAt cells off cv))], []⟩ undef w' σ := by
 simp only [Rep] at ha
 obtain ⟨e, ad, he, had, rfl⟩ := ha
 obtain ⟨ad', vs, el, had', h0, hcs, hrb⟩ := hh.blk i e _ he hb
 rw [had] at had'; cases had'
 have hlen := hr.length
 have hlb := hrb.length
 have hone : ∀ u ∈ v.cells.toList, u.oneCell' = true := by
  intro u hu
  obtain ⟨j, hj, hju⟩ := List.mem_iff_getElem.1 hu
  have hj' : j < cv.length := by omega
  exact w5 (List.all_eq_true.1 h1 _ (List.getElem_mem hj')) ((zq.1 hr).2 j cv[j] u (List.getElem?_eq_getElem hj') (by rw [List.getElem?_eq_getElem hj, hju]))
 have hst := run_storeCells_at P ad.block off el v.cells.toList 0 vs.toArray w hcs (by simp at hlen ⊢; omega) hone
 simp only [Nat.add_zero, List.toList_toArray] at hst
 have hrow : (w.setRow ad.block (vs.take off ++ v.cells.toList ++ vs.drop (off + v.cells.toList.length)).toArray).heap[ad.block]? = some (.cells (vs.take off ++ v.cells.toList ++ vs.drop (off + v.cells.toList.length)).toArray el (0, 0)) := setRow_heap w _ _ _ _ _ hcs
 have ht := vT w ad.block (vs.take off ++ v.cells.toList ++ vs.drop (off + v.cells.toList.length)).toArray
 have hsz : ∀ cs el, w.heap[ad.block]? = some (.cells cs el (0, 0)) → ∃ cs' el', (w.setRow ad.block (vs.take off ++ v.cells.toList ++ vs.drop (off + v.cells.toList.length)).toArray).heap[ad.block]? = some (.cells cs' el' (0, 0)) ∧ cs'.size = cs.size := by
  intro cs el2 h
  rw [hcs] at h; cases h
  exact ⟨_, _, hrow, by simp at hlen ⊢; omega⟩
 have hown : Own O σ ad.block := .inr ⟨e, List.mem_of_getElem? he, ad, had, rfl⟩
 refine ⟨w.setRow ad.block (vs.take off ++ v.cells.toList ++ vs.drop (off + v.cells.toList.length)).toArray, ?_, ?_⟩
 ·simp only [Instr.storeAt, Instr.sureAddr, Sem.run_bind, Sem.run_pure, Result.andThen_ok, storeVar, zz hn]
  rw [if_neg (by simp at hlen ⊢; omega), h0, Nat.zero_add]
  exact hst
 ·refine ⟨trivial, jz ht hown, ?_, vm ht hsz, ⟨fun b hb => by rw [ht.size]; exact hg.old b hb, hg.dis, hg.stat.ext (jz ht hown)⟩, fun b hb _ => ht.other b (fun h => hg.dis i e ad he had (h ▸ hb)), fun j f a hf ha hj => ht.other _ (hh.inj j i f e a ad hf he ha had (by simpa using hj))⟩
  simp only [zL, zm]
  refine Qc hh he had ht hsz ?_
  simp only [BRep]
  refine ⟨ad, _, el, had, h0, hrow, qu (jz ht hown) (vm ht hsz) _ _ (jy _) (hrb.setAt hr (by omega))⟩
theorem Xn {h : Heap} (hg : Good O w σ) (hh : HRep (Own O σ) w σ h) {t : TypeId} {i sz idx off n N : Nat} {g : Nat → Nat → AV} {cv cv' : List AV} {k : List Nat} {va v : Value} (ha : Rep (Own O σ) w (.eptr i sz idx off) σ va) (hb : h[i]? = some (.arr N sz g))
  (hn : qg P t = some n) (hr : RepL (Own O σ) w cv σ v.cells.toList) (hl : cv.length = n) (hle : off + n ≤ sz) (hf : frzL h cv = some (cv', k)) (hk : i ∉ k) :
  ∃ w' σ', (Instr.storeAt t va v).run P w = .ok () w' ∧ Post O w σ h ⟨.undef, (i, .arr N sz (updG g idx off cv')) :: kn k, k⟩ undef w' σ' := by
 simp only [Rep] at ha
 obtain ⟨e, ad, he, had, hidx, rfl⟩ := ha
 obtain ⟨hen, hz | ⟨ad', cs, el, had', hcs, hsz, hrb⟩⟩ := hh.blk i e _ he hb
 ·omega
 rw [had] at had'; cases had'
 obtain ⟨h5, h6, h7⟩ := w6 hg hh hr hf (K := k) (fun i hi => hi)
 have hlen := h5.length
 have hlen2 := hr.length
 have hone : ∀ u ∈ v.cells.toList, u.oneCell' = true := by
  intro u hu
  obtain ⟨j, hj, hju⟩ := List.mem_iff_getElem.1 hu
  have hj' : j < cv'.length := by omega
  exact w5 (h6 _ (List.getElem_mem hj')) ((zq.1 h5).2 j cv'[j] u (List.getElem?_eq_getElem hj') (by rw [List.getElem?_eq_getElem hj, hju]))
 have hbnd : ad.off + (idx * sz + off) + v.cells.toList.length ≤ cs.size := by
  have : (idx + 1) * sz ≤ N * sz := Nat.mul_le_mul_right _ (by omega)
  rw [Nat.succ_mul] at this; omega
 have hst := run_storeCells_at P ad.block (ad.off + (idx * sz + off)) el v.cells.toList 0 cs w hcs (by omega) hone
 simp only [Nat.add_zero] at hst
 generalize hnew : (cs.toList.take (ad.off + (idx * sz + off)) ++ v.cells.toList ++ cs.toList.drop (ad.off + (idx * sz + off) + v.cells.toList.length)).toArray = cs' at hst
 have hcs'sz : cs'.size = cs.size := by rw [← hnew]; simp at hbnd ⊢; omega
 have hrow : (w.setRow ad.block cs').heap[ad.block]? = some (.cells cs' el (0, 0)) := setRow_heap w _ _ _ _ _ hcs
 have ht := vT w ad.block cs'
 have hszs : ∀ c el2, w.heap[ad.block]? = some (.cells c el2 (0, 0)) → ∃ c' el', (w.setRow ad.block cs').heap[ad.block]? = some (.cells c' el' (0, 0)) ∧ c'.size = c.size := by
  intro c el2 h
  rw [hcs] at h; cases h
  exact ⟨_, _, hrow, hcs'sz⟩
 have hh1 := yO hh k
 have he1 : (frzS k σ)[i]? = some e := by rw [jP, he]; simp [hk]
 have hown : Own O (frzS k σ) ad.block := .inr ⟨e, List.mem_of_getElem? he1, ad, had, rfl⟩
 refine ⟨w.setRow ad.block cs', frzS k σ, ?_, ?_⟩
 ·simp only [Instr.storeAt, Instr.sureAddr, Sem.run_bind, Sem.run_pure, Result.andThen_ok, storeVar, zz hn]
  rw [if_neg (by simp at hlen2 ⊢; omega)]
  exact hst
 ·refine ⟨trivial, (wg k w σ).trans (jz ht hown), ?_, (Zh k w σ).W3 (vm ht hszs), ⟨fun b hb => by rw [ht.size]; exact hg.old b hb, (Zi k hg).dis, (Zi k hg).stat.ext (jz ht hown)⟩, fun b hb _ => ht.other b (fun h => hg.dis i e ad he had (h ▸ hb)), fun j f a hf ha hj => ht.other _ (hh.inj j i f e a ad hf he ha had (fun h => hj (by simp [h])))⟩
  have hil : i < h.length := by rw [← hh.len]; exact (List.getElem?_eq_some_iff.1 he).1
  have heq : zm (zL k h) ((i, .arr N sz (updG g idx off cv')) :: kn k) = qa (kG k (zL k h)) i (.arr N sz (updG g idx off cv')) := by
   have hl1 : i < (zL k h).length := by simpa [zQ] using hil
   have hl2 : i < (kG k (zL k h)).length := by simpa [kG, zQ] using hil
   simp only [zm, qa, if_pos hl1, if_pos hl2]
   rw [uh _ _ (fun j hj => by simp [zQ]; exact h7 j hj)]
   apply List.ext_getElem?
   intro j
   rw [wo, List.getElem?_set, List.getElem?_set, wo]
   by_cases hij : i = j
   ·subst hij; simp [hl1, hl2, hk]
   ·simp [hij]
  rw [heq]
  refine Qc hh1 he1 had ht hszs ?_
  simp only [BRep]
  refine ⟨hen, .inr ⟨ad, cs', el, had, hrow, by omega, fun j o hj ho => ?_⟩⟩
  obtain ⟨c, h8, h9, h10⟩ := hrb j o hj ho
  have hx := (wg k w σ).trans (jz ht hown)
  have hpos : ∀ p : Nat, cs'[p]? = if ad.off + (idx * sz + off) ≤ p ∧ p < ad.off + (idx * sz + off) + v.cells.toList.length then v.cells.toList[p - (ad.off + (idx * sz + off))]? else cs[p]? := by
   intro p
   rw [← hnew]
   simp only [List.getElem?_toArray, List.getElem?_append, List.length_append, List.length_take, Array.length_toList]
   have hmin : min (ad.off + (idx * sz + off)) cs.size = ad.off + (idx * sz + off) := by omega
   rw [hmin]
   by_cases c1 : p < ad.off + (idx * sz + off)
   ·rw [if_pos (by omega), if_pos c1, if_neg (by omega)]
    rw [List.getElem?_take, if_pos c1, Array.getElem?_toList]
   ·by_cases c2 : p < ad.off + (idx * sz + off) + v.cells.size
    ·rw [if_pos (by simpa using c2), if_neg c1, if_pos ⟨by omega, by simpa using c2⟩]
    ·rw [if_neg (by simpa using c2), if_neg (by simp; omega), List.getElem?_drop, Array.getElem?_toList]
     congr 1
     have : v.cells.toList.length = v.cells.size := by simp
     omega
  by_cases hc : j = idx ∧ off ≤ o ∧ o < off + cv'.length
  ·obtain ⟨rfl, ho1, ho2⟩ := hc
   have hlt : o - off < cv'.length := by omega
   obtain ⟨u, hu, hR⟩ := h5.get (List.getElem?_eq_getElem hlt)
   refine ⟨u, ?_, w5 (h6 _ (List.getElem_mem hlt)) hR, ?_⟩
   ·rw [hpos, if_pos ⟨by omega, by omega⟩]
    rw [← hu]; congr 1; omega
   ·simp only [updG, ho1, ho2, and_self, if_true]
    rw [show cv'.getD (o - off) .undef = cv'[o - off] by simp [List.getD, hlt]]
    exact zu (jz ht hown) _ _ hR
  ·refine ⟨c, ?_, h9, ?_⟩
   ·rw [hpos, if_neg, h8]
    rintro ⟨a1, a2⟩
    apply hc
    have hjo : j = idx := by
     rcases Nat.lt_trichotomy j idx with hlt | heq | hgt
     ·have : (j + 1) * sz ≤ idx * sz := Nat.mul_le_mul_right _ (by omega)
      rw [Nat.succ_mul] at this; omega
     ·exact heq
     ·have : (idx + 1) * sz ≤ j * sz := Nat.mul_le_mul_right _ (by omega)
      rw [Nat.succ_mul] at this; omega
    subst hjo
    exact ⟨rfl, by omega, by omega⟩
   ·simp only [updG, if_neg hc]
    exact zu hx _ _ h10
end
end Go.Sx
end

/- make and append. -/
section
namespace Go.Sx
variable [Stat]
open Go.RowKit (Below)
section
variable {O : Nat → Prop} {w : World} {σ : List SE} {P : Program}
theorem vJ {own : Nat → Prop} {w : World} {t : TypeId} {i : TypeInfo} {cs : List AV} (h : zeroCells P t = some cs) (hi : P.info? t = some i) : ∃ v, i.zero = some v ∧ RepL own w cs [] v.cells.toList := by
 unfold zeroCells at h
 rw [hi] at h
 simp only at h
 split at h
 ·rename_i v hv
  exact ⟨v, hv, js h (wX v)⟩
 ·cases h
theorem Y8 {z : Array Value} {n k : Nat} (hk : k < n) (hz : k % z.size < z.size) : (madeCells z n)[k]? = z[k % z.size]? := by
 have h0 : z[k % z.size]! = z[k % z.size] := getElem!_pos z (k % z.size) hz
 simp [madeCells, hk, h0, hz]
theorem y9 {h : Heap} (hg : Good O w σ) (hh : HRep (Own O σ) w σ h) {t e : TypeId} {i : TypeInfo} {z : List AV} {kl kc : IntKind} {l c : Int} (hu : P.underlying t = some (.slice e)) (hi0 : P.info? e = some i) (hz : zeroCells P e = some z)
  (hzl : z.length = i.size) (hz1 : z.all oneA = true) (h0 : 0 ≤ l) (hlc : l ≤ c) (hc : inR .i64 c) (hb : c.toNat * i.bytes ≤ qY) :
  ∃ v w' σ', (Instr.makeSlice t (.int kl l) (.int kc c)).run P w = .ok v w' ∧ Post O w σ h ⟨.osl h.length i.size 0 l.toNat, [(h.length, .arr l.toNat i.size (ke z))], []⟩ v w' σ' := by
 obtain ⟨zv, hzv, hzr0⟩ := vJ (own := Own O σ) (w := w) hz hi0
 obtain ⟨zv', hzv', hzr⟩ := vJ (own := Own O (σ ++ [⟨some ⟨w.heap.size, 0, none⟩, l.toNat⟩])) (w := w.alloc (.cells (madeCells zv.cells (c.toNat * i.size)) e)) hz hi0
 rw [hzv] at hzv'; cases hzv'
 have hzs : zv.cells.size = i.size := by have := hzr.length; simpa [hzl] using this
 have hbytes : (i.bytes : Int) * c ≤ 281474976710656 := by
  have h1 : (i.bytes : Int) * c = ((c.toNat * i.bytes : Nat) : Int) := by
   rw [Int.natCast_mul, Int.toNat_of_nonneg (by omega), Int.mul_comm]
  rw [h1]; unfold qY at hb; omega
 have hc' : c ≤ 9223372036854775807 := hc.2
 have hr := run_make (P := P) w t e i zv hu hi0 hzv kl kc l c h0 hlc hbytes hc'
 have hlc' : l.toNat ≤ c.toNat := by omega
 refine ⟨_, _, σ ++ [⟨some ⟨w.heap.size, 0, none⟩, l.toNat⟩], hr, ?_, qb hh _ _, ?_, qy hh _ _, wI hh hg _ _, fun b _ hb => Below.heap_alloc w _ b hb, fun i e ad he had _ => Below.heap_alloc w _ _ (hh.lt i e ad he had)⟩
 ·simp only [Rep]
  refine ⟨⟨some ⟨w.heap.size, 0, none⟩, l.toNat⟩, ?_, by simp, _, _, rfl, hlc', .inr ⟨_, rfl, by simp, _, e, heap_alloc_new w _, ?_⟩⟩
  ·rw [← hh.len]; simp
  ·simp [size_madeCells]
 ·simp only [zL, zm, qa, Nat.lt_irrefl, if_false]
  refine wu hh ?_
  simp only [BRep]
  refine ⟨by trivial, .inr ⟨_, _, e, rfl, heap_alloc_new w _, ?_, fun j o hj ho => ?_⟩⟩
  ·simp [size_madeCells]; exact Nat.mul_le_mul_right _ hlc'
  ·have hk : j * i.size + o < c.toNat * i.size := by
    have : (j + 1) * i.size ≤ c.toNat * i.size := Nat.mul_le_mul_right _ (by omega)
    rw [Nat.succ_mul] at this; omega
   have hmod : (j * i.size + o) % zv.cells.size = o := by
    rw [hzs, Nat.mul_comm, Nat.mul_add_mod]; exact Nat.mod_eq_of_lt ho
   have ho' : o < z.length := by omega
   obtain ⟨u, hu', hR⟩ := hzr.get (List.getElem?_eq_getElem ho')
   refine ⟨u, ?_, w5 (List.all_eq_true.1 hz1 _ (List.getElem_mem ho')) hR, ?_⟩
   ·simp only [Nat.zero_add]
    rw [Y8 hk (by rw [hmod, hzs]; exact ho), hmod]
    simpa using hu'
   ·simp only [ke, List.getD, List.getElem?_eq_getElem ho', Option.getD_some]
    exact hR
theorem yl {h : Heap} (hh : HRep (Own O σ) w σ h) {tx e' sz n : Nat} {g : Nat → Nat → AV} {a : AV} {va : Value} (hu : P.underlying tx = some (.slice e')) (ha : Rep (Own O σ) w a σ va) (hs : Jt sz h a = some (n, g)) :
  ∃ news, Src P sz tx va n news w ∧ ∀ j o, j < n → o < sz → ∃ c, news[j * sz + o]? = some c ∧ c.oneCell' = true ∧ Rep (Own O σ) w (g j o) [] c := by
 have key : ∀ sz', sz' = sz ∨ n = 0 → jQ h a = some (n, sz', g) → ∃ news, Src P sz tx va n news w ∧ ∀ j o, j < n → o < sz → ∃ c, news[j * sz + o]? = some c ∧ c.oneCell' = true ∧ Rep (Own O σ) w (g j o) [] c := by
  intro sz' hsz hs
  obtain ⟨ad, cap, rfl, hc, hr⟩ := xY hh ha hs
  by_cases hn : n = 0
  ·subst hn
   refine ⟨[], ?_, fun j o hj => by omega⟩
   cases ad with
   | none => exact Src.ofNil w hu cap
   | some d => exact Src.ofSlice w hu d 0 cap [] (by simp) (by simp) (by simp)
  ·have hsz : sz' = sz := by omega
   subst hsz
   rcases hr with hr | ⟨d, rfl, hsp, hr⟩
   ·exact absurd hr hn
   by_cases hz : sz' = 0
   ·subst hz
    exact ⟨[], Src.ofSlice w hu d n cap [] (by simp) (by simp) (by simp), fun j o _ ho => by omega⟩
   have hpos : 0 < sz' := by omega
   obtain ⟨f, hf⟩ := Classical.axiomOfChoice (r := fun (k : Nat) c => k < n * sz' → w.cell? ⟨d.block, d.off + k, none⟩ = some c ∧ c.oneCell' = true ∧ Rep (Own O σ) w (g (k / sz') (k % sz')) [] c)
    (fun k => by
     by_cases hk : k < n * sz'
     ·obtain ⟨c, h1, h2, h3⟩ := hr (k / sz') (k % sz') (by rw [Nat.div_lt_iff_lt_mul hpos]; exact hk) (Nat.mod_lt _ hpos)
      exact ⟨c, fun _ => ⟨by rw [← h1]; congr 3; rw [Nat.mul_comm]; exact (Nat.div_add_mod k sz').symm, h2, h3⟩⟩
     ·exact ⟨undef, fun h => absurd h hk⟩)
   refine ⟨(List.range (n * sz')).map f, Src.ofSlice w hu d n cap _ (by simp) (fun j u hj => ?_) (fun u hu => ?_), fun j o hj ho => ?_⟩
   ·by_cases hjn : j < n * sz'
    ·simp [hjn] at hj; subst hj
     rw [add_plain hsp]; exact (hf j hjn).1
    ·simp [hjn] at hj
   ·obtain ⟨k, hk, rfl⟩ := List.mem_map.1 hu
    exact (hf k (by simpa using hk)).2.1
   ·have hk : j * sz' + o < n * sz' := by
     have : (j + 1) * sz' ≤ n * sz' := Nat.mul_le_mul_right _ (by omega)
     rw [Nat.succ_mul] at this; omega
    obtain ⟨h1, h2, h3⟩ := hf _ hk
    refine ⟨f (j * sz' + o), by simp [hk], h2, ?_⟩
    have e1 : (j * sz' + o) / sz' = j := by rw [Nat.mul_comm, Nat.mul_add_div hpos, Nat.div_eq_of_lt ho, Nat.add_zero]
    have e2 : (j * sz' + o) % sz' = o := by rw [Nat.mul_comm, Nat.mul_add_mod]; exact Nat.mod_eq_of_lt ho
    rw [e1, e2] at h3
    exact h3
 cases a with
 | nils =>
  simp only [Jt, Option.some.injEq, Prod.mk.injEq] at hs
  obtain ⟨rfl, rfl⟩ := hs
  exact key 0 (.inr rfl) rfl
 | _ =>
  simp only [Jt] at hs
  split at hs
  ·rename_i n' sz' g' hs'
   split at hs
   ·rename_i hz
    simp only [Option.some.injEq, Prod.mk.injEq] at hs
    obtain ⟨rfl, rfl⟩ := hs
    exact key sz' (.inl hz) hs'
   ·cases hs
  ·cases hs
theorem Zt {t tx ty e : TypeId} {i : TypeInfo} {b o sLen sCap : Nat} {cur : Array Value} {el : TypeId} {x : Value} {n : Nat} {news : List Value} (ht : P.underlying t = some (.slice e)) (hi : P.info? e = some i) (hs : Src P i.size tx x n news w)
  (hroom : sLen + n ≤ sCap) (hcur : w.heap[b]? = some (.cells cur el (0, 0))) (hfit : o + sLen * i.size + news.length ≤ cur.size) :
  (Builtin.append_ #[t, tx] ty #[.slice (some ⟨b, o, none⟩) sLen sCap, x]).run P w = .ok (.slice (some ⟨b, o, none⟩) (sLen + n) sCap) (w.setRow b (cur.toList.take (o + sLen * i.size) ++ news ++ cur.toList.drop (o + sLen * i.size + news.length)).toArray) := by
 have hst := run_storeCells_at P b (o + sLen * i.size) el news 0 cur w hcur (by omega) hs.one
 simp only [Nat.add_zero] at hst
 rcases hs.kind with ⟨e', hk⟩ | hk <;> simp [Builtin.append_, run_underlying ht, run_underlying hk, sizeOf, typeInfo, hi, hs.len, hroom, hs.cells, Addr.add_lit, hst]
theorem vO {t tx ty e : TypeId} {i : TypeInfo} {base : Option Addr} {x : Value} (ht : P.underlying t = some (.slice e)) (hi : P.info? e = some i) (hs : Src P i.size tx x 0 [] w) (sCap : Nat) (sLen : Nat) (hl : sLen ≤ sCap) :
  (Builtin.append_ #[t, tx] ty #[.slice base sLen sCap, x]).run P w = .ok (.slice base sLen sCap) w := by
 rcases hs.kind with ⟨e', hk⟩ | hk <;> cases base <;> simp [Builtin.append_, run_underlying ht, run_underlying hk, sizeOf, typeInfo, hi, hs.len, hl, hs.cells, storeCells]
theorem ZG {h : Heap} (hh : HRep (Own O σ) w σ h) : HRep (Own O σ) w.drew σ h := by
 have hx : Ext (Own O σ) w (Own O σ) w.drew := ⟨rfl, rfl, rfl, Nat.le_refl _, fun _ _ _ => rfl, fun _ h => .inl h⟩
 have ho : Hold [] w σ w.drew σ := fun i e he _ => ⟨he, fun ad had cs el hcs => ⟨cs, el, hcs, rfl⟩⟩
 refine ⟨hh.len, hh.inj, hh.lt, fun i e b he hb => ?_⟩
 have := qC hx ho (hh.blk i e b he hb) (fun _ _ => rfl)
 rwa [qN] at this
theorem ext_nil (w : World) (σ : List SE) (n : Nat) : Ext (Own O σ) w (Own O (σ ++ [⟨none, n⟩])) w := by
 refine ⟨rfl, rfl, rfl, Nat.le_refl _, fun _ _ _ => rfl, fun b hb => .inl ?_⟩
 rcases hb with hb | ⟨e, he, ad, h1, h2⟩
 ·exact .inl hb
 rcases List.mem_append.1 he with he | he
 ·exact .inr ⟨e, he, ad, h1, h2⟩
 ·simp at he; subst he; simp at h1
theorem UT {h : Heap} (hg : Good O w σ) (hh : HRep (Own O σ) w σ h) (sz : Nat) (g : Nat → Nat → AV) :
  HRep (Own O (σ ++ [⟨none, 0⟩])) w (σ ++ [⟨none, 0⟩]) (h ++ [.arr 0 sz g]) ∧ Good O w (σ ++ [⟨none, 0⟩]) ∧ Hold [] w σ w (σ ++ [⟨none, 0⟩]) := by
 have hget : ∀ (i : Nat) (e : SE), (σ ++ [(⟨none, 0⟩ : SE)])[i]? = some e → σ[i]? = some e ∨ (i = σ.length ∧ e = ⟨none, 0⟩) := by
  intro i e he
  rw [List.getElem?_append] at he
  split at he
  ·exact .inl he
  ·right
   have : i - σ.length = 0 := by
    have := (List.getElem?_eq_some_iff.1 he).1
    simp at this; omega
   rw [this] at he
   simp at he
   exact ⟨by omega, he.symm⟩
 have hold : Hold [] w σ w (σ ++ [⟨none, 0⟩]) := fun i e he _ => ⟨by rw [List.getElem?_append_left (List.getElem?_eq_some_iff.1 he).1]; exact he, fun ad had cs el hcs => ⟨cs, el, hcs, rfl⟩⟩
 refine ⟨⟨by simp [hh.len], ?_, ?_, ?_⟩, ⟨hg.old, ?_, hg.stat.ext (ext_nil w σ 0)⟩, hold⟩
 ·intro i j e f a b he hf ha hb hne
  rcases hget i e he with he | ⟨_, rfl⟩
  ·rcases hget j f hf with hf | ⟨_, rfl⟩
   ·exact hh.inj i j e f a b he hf ha hb hne
   ·cases hb
  ·cases ha
 ·intro i e a he ha
  rcases hget i e he with he | ⟨_, rfl⟩
  ·exact hh.lt i e a he ha
  ·cases ha
 ·intro i e b he hb
  rcases hget i e he with he | ⟨hi, rfl⟩
  ·rw [List.getElem?_append_left (by rw [← hh.len]; exact (List.getElem?_eq_some_iff.1 he).1)] at hb
   have := qC (ext_nil w σ 0) hold (hh.blk i e b he hb) (fun _ _ => rfl)
   rwa [qN] at this
  ·rw [List.getElem?_append_right (by rw [← hh.len]; omega), ← hh.len, hi] at hb
   simp at hb
   subst hb
   simp [BRep]
 ·intro i e ad he had
  rcases hget i e he with he | ⟨_, rfl⟩
  ·exact hg.dis i e ad he had
  ·cases had
theorem Ja {h : Heap} (hg : Good O w σ) (hh : HRep (Own O σ) w σ h) {t tx ty : TypeId} {s x : AV} {vs vx : Value} {Q : Res → Prop} (hs : Rep (Own O σ) w s σ vs) (hx : Rep (Own O σ) w x σ vx) (hq : (QK P h t tx s x).holds Q) :
  ∃ r v w' σ', (Builtin.append_ #[t, tx] ty #[vs, vx]).run P w = .ok v w' ∧ Q r ∧ Post O w σ h r v w' σ' := by
 simp only [QK] at hq
 split at hq
 ·rename_i e e' hu hu'
  split at hq
  ·rename_i i hi
   split at hq
   ·exact hq.elim
   ·rename_i hne
    have hb0 : i.bytes ≠ 0 := fun h => hne (.inl h)
    obtain ⟨z, hz, hzs⟩ : ∃ z, i.zero = some z ∧ z.cells.size = i.size := by
     cases hz : zeroCells P e with
     | none => exact absurd (.inr (by simp [hz])) hne
     | some zs =>
      by_cases hzl : zs.length = i.size
      ·obtain ⟨z, h1, h2⟩ := vJ (own := Own O σ) (w := w) hz hi
       exact ⟨z, h1, by have := h2.length; simpa [hzl] using this⟩
      ·exact absurd (.inr (by simp [hz, hzl])) hne
    have hroomlen : ∀ m : Nat, m * i.bytes ≤ qY → m ≤ 140737488355328 := fun m hm => by
     have : m * 1 ≤ m * i.bytes := Nat.mul_le_mul_left _ (by omega)
     unfold qY at hm; omega
    split at hq
    ·
     rename_i n2 g2 hsx
     obtain ⟨hroom, hq⟩ := hq
     have hq := hq hroom
     simp only [Rep] at hs
     subst hs
     obtain ⟨news, hsrc, hnews⟩ := yl hh hu' hx hsx
     by_cases hn : n2 = 0
     ·subst hn
      have : news = [] := by have := hsrc.newsLen; simpa using this
      subst this
      obtain ⟨k1, k2, k3⟩ := UT hg hh i.size g2
      refine ⟨_, .slice none 0 0, w, σ ++ [⟨none, 0⟩], vO hu hi hsrc 0 0 (Nat.le_refl _), hq, ?_, ext_nil w σ 0, ?_, k3, k2, fun _ _ _ => rfl, fun _ _ _ _ _ _ => rfl⟩
      ·simp only [Rep]
       exact ⟨⟨none, 0⟩, by rw [← hh.len]; simp, by simp, none, 0, rfl, Nat.le_refl _, .inl rfl⟩
      ·simp only [zL, zm, qa, Nat.lt_irrefl, if_false]
       exact k1
     ·have hlen := hroomlen n2 hroom
      have hrun := run_append_grow_src (P := P) w t tx e (ty := ty) i z hu hi hz none 0 0 [] (by simp [Builtin.firstCells]) vx n2 news hsrc (by omega) (by omega) (growslice_fits (by omega) (by simpa [qY] using hroom))
      simp only [Nat.zero_add] at hrun
      have hh' := ZG hh
      have hg' : Good O w.drew σ := ⟨hg.old, hg.dis, hg.stat.ext ⟨rfl, rfl, rfl, Nat.le_refl _, fun _ _ _ => rfl, fun _ h => .inl h⟩⟩
      have hnl := hsrc.newsLen
      refine ⟨_, _, _, σ ++ [⟨some ⟨w.drew.heap.size, 0, none⟩, n2⟩], hrun, hq, ?_, ?_, ?_, qy hh' _ _, wI hh' hg' _ _, fun b _ hb => Below.heap_alloc w.drew _ b hb, fun i e ad he had _ => Below.heap_alloc w.drew _ _ (hh.lt i e ad he had)⟩
      ·simp only [Rep]
       refine ⟨⟨some ⟨w.drew.heap.size, 0, none⟩, n2⟩, by rw [← hh.len]; simp, by simp, _, _, rfl, grownCap_ge w n2 0 e, .inr ⟨_, rfl, by simp, _, e, heap_alloc_new w.drew _, ?_⟩⟩
       simp only [Nat.zero_add]
       simp only [Array.size_append, List.size_toArray, List.nil_append, hnl, size_zeroCells, hzs]
       have hge := grownCap_ge w n2 0 e
       rw [← Nat.add_mul]
       exact Nat.mul_le_mul_right _ (by omega)
      ·have := qb hh' (.cells (([] ++ news).toArray ++ Builtin.zeroCells z.cells (grownCap w n2 0 e - n2)) e) n2
       exact ⟨this.os, this.tape, this.output, this.size, this.keep, this.grow⟩
      ·simp only [zL, zm, qa, Nat.lt_irrefl, if_false]
       refine wu hh' ?_
       simp only [BRep]
       refine ⟨by trivial, .inr ⟨_, _, e, rfl, heap_alloc_new w.drew _, by simp [hnl], fun j o hj ho => ?_⟩⟩
       obtain ⟨c, h1, h2, h3⟩ := hnews j o hj ho
       refine ⟨c, ?_, h2, zu (qb hh' _ _) _ _ (zu (w1 := w) (w2 := w.drew) (o1 := Own O σ) (o2 := Own O σ) ⟨rfl, rfl, rfl, Nat.le_refl _, fun _ _ _ => rfl, fun _ h => .inl h⟩ _ _ h3)⟩
       have hlt := (List.getElem?_eq_some_iff.1 h1).1
       simp only [Nat.zero_add, List.nil_append]
       rw [Array.getElem?_append_left (by simpa using hlt)]
       simpa using h1
    ·
     rename_i n2 g2 b sz off n hsx
     split at hq
     ·rename_i n' sz' g hb
      split at hq
      ·rename_i hsz
       obtain ⟨rfl, hsz2⟩ := hsz
       subst hsz2
       obtain ⟨hsd, hq⟩ := hq
       have hQ := hq hsd
       clear hq
       obtain ⟨rfl, hnn, hroom⟩ := hsd
       have hq := hQ
       obtain ⟨news, hsrc, hnews⟩ := yl hh hu' hx hsx
       have hs0 := hs
       simp only [Rep] at hs
       obtain ⟨e0, he, hl, a, cap, rfl, hcap, hr⟩ := hs
       obtain ⟨hen, hblk⟩ := hh.blk b e0 _ he hb
       have hbl : b < h.length := by rw [← hh.len]; exact (List.getElem?_eq_some_iff.1 he).1
       have hnl := hsrc.newsLen
       by_cases hroom2 : n + n2 ≤ cap
       ·by_cases hn2 : n2 = 0
        ·
         subst hn2
         have : news = [] := by simpa using hnl
         subst this
         have hown' : ∀ k, Own O (σ.set b ⟨e0.ad, n⟩) k → Own O σ k := by
          rintro k (hk | ⟨x, hx, ad, h1, h2⟩)
          ·exact .inl hk
          ·rcases List.mem_or_eq_of_mem_set hx with hx | rfl
           ·exact .inr ⟨x, hx, ad, h1, h2⟩
           ·exact .inr ⟨e0, List.mem_of_getElem? he, ad, h1, h2⟩
         have hold : Hold [b] w σ w (σ.set b ⟨e0.ad, n⟩) := by
          intro j f hf hj
          have hjb : b ≠ j := fun h => hj (by simp [h])
          exact ⟨by rw [List.getElem?_set_ne hjb]; exact hf, fun ad _ cs el hcs => ⟨cs, el, hcs, rfl⟩⟩
         have hext : Ext (Own O σ) w (Own O (σ.set b ⟨e0.ad, n⟩)) w := ⟨rfl, rfl, rfl, Nat.le_refl _, fun _ _ _ => rfl, fun k hk => .inl (hown' k hk)⟩
         refine ⟨_, _, w, σ.set b ⟨e0.ad, n⟩, vO hu hi hsrc cap n hcap, hq, ?_, hext, ?_, hold, ?_, fun _ _ _ => rfl, fun _ _ _ _ _ _ => rfl⟩
         ·simp only [Rep]
          exact ⟨⟨e0.ad, n⟩, by rw [List.getElem?_set_self (by rw [hh.len]; exact hbl)], by simp, a, cap, rfl, hcap, hr⟩
         ·simp only [zm]
          refine uD hh he hext hold (fun _ _ _ _ _ _ => rfl) (fun j f a a' hj hf ha ha' => hh.inj j b f e0 a a' hf he ha ha' hj) (fun ad had => hh.lt b e0 ad he had) ?_
          simp only [BRep]
          refine ⟨rfl, ?_⟩
          rcases hblk with hz0 | ⟨ad, cs, el, had, hcs, hsz, hrb⟩
          ·exact .inl (by omega)
          ·have : (n + 0) * i.size ≤ n' * i.size := Nat.mul_le_mul_right _ (by omega)
           refine .inr ⟨ad, cs, el, had, hcs, by omega, fun j o hj ho => ?_⟩
           obtain ⟨c, h1, h2, h3⟩ := hrb j o (by omega) ho
           exact ⟨c, h1, h2, by simp only [appG, if_pos (show j < n by omega)]; exact zu hext _ _ h3⟩
         ·refine ⟨hg.old, fun j f ad hf ha => ?_, hg.stat.ext hext⟩
          by_cases hjb : b = j
          ·subst hjb
           rw [List.getElem?_set_self (by rw [hh.len]; exact hbl)] at hf
           cases hf
           exact hg.dis b e0 ad he ha
          ·rw [List.getElem?_set_ne hjb] at hf
           exact hg.dis j f ad hf ha
        ·
         rcases hr with hr | ⟨ad, had, rfl, cs, el, hcs, hsz⟩
         ·omega
         have hle : (n + n2) * i.size ≤ cap * i.size := Nat.mul_le_mul_right _ hroom2
         simp only [Nat.zero_add, Nat.zero_mul, Nat.add_zero] at hsz
         rw [Nat.add_mul] at hle
         have hrun := Zt (P := P) (w := w) (ty := ty) (b := ad.block) (o := ad.off + 0 * i.size) (sLen := n) (sCap := cap) hu hi hsrc hroom2 hcs (by rw [hnl]; omega)
         simp only [Nat.zero_mul, Nat.add_zero] at hrun
         generalize hnew : (cs.toList.take (ad.off + n * i.size) ++ news ++ cs.toList.drop (ad.off + n * i.size + news.length)).toArray = cs' at hrun
         have hcs'sz : cs'.size = cs.size := by rw [← hnew]; simp [hnl]; omega
         have hrow : (w.setRow ad.block cs').heap[ad.block]? = some (.cells cs' el (0, 0)) := setRow_heap w _ _ _ _ _ hcs
         have ht := vT w ad.block cs'
         have hszs : ∀ c el2, w.heap[ad.block]? = some (.cells c el2 (0, 0)) → ∃ c' el', (w.setRow ad.block cs').heap[ad.block]? = some (.cells c' el' (0, 0)) ∧ c'.size = c.size := by
          intro c el2 h
          rw [hcs] at h; cases h
          exact ⟨_, _, hrow, hcs'sz⟩
         have hown : Own O σ ad.block := .inr ⟨e0, List.mem_of_getElem? he, ad, had, rfl⟩
         have hown' : ∀ k, Own O (σ.set b ⟨some ad, n + n2⟩) k → Own O σ k := by
          rintro k (hk | ⟨f, hf, a, ha, rfl⟩)
          ·exact .inl hk
          rcases List.mem_or_eq_of_mem_set hf with hf | rfl
          ·exact .inr ⟨f, hf, a, ha, rfl⟩
          ·cases ha; exact hown
         have hx0 := jz ht hown
         have hext : Ext (Own O σ) w (Own O (σ.set b ⟨some ad, n + n2⟩)) (w.setRow ad.block cs') := ⟨hx0.os, hx0.tape, hx0.output, hx0.size, hx0.keep, fun k hk => hx0.grow k (hown' k hk)⟩
         have hold : Hold [b] w σ (w.setRow ad.block cs') (σ.set b ⟨some ad, n + n2⟩) := by
          intro j f hf hj
          have hjb : b ≠ j := fun h => hj (by simp [h])
          obtain ⟨h1, h2⟩ := vm ht hszs j f hf (by simp)
          exact ⟨by rw [List.getElem?_set_ne hjb]; exact hf, h2⟩
         refine ⟨_, _, w.setRow ad.block cs', σ.set b ⟨some ad, n + n2⟩, by simpa using hrun, hq, ?_, hext, ?_, hold, ?_, fun k hk _ => ht.other k (fun h => hg.dis b e0 ad he had (h ▸ hk)), fun j f a hf ha hj => ht.other _ (hh.inj j b f e0 a ad hf he ha had (by simpa using hj))⟩
         ·simp only [Rep]
          exact ⟨⟨some ad, n + n2⟩, by rw [List.getElem?_set_self (by rw [hh.len]; exact hbl)], by simp, _, cap, rfl, hroom2, .inr ⟨ad, rfl, by simp, cs', el, hrow, by simp; omega⟩⟩
         ·simp only [zm]
          refine uD hh he hext hold (fun j f a hj hf ha => ht.other _ (hh.inj j b f e0 a ad hf he ha had hj)) (fun j f a a' hj hf ha ha' => by cases ha'; exact hh.inj j b f e0 a ad hf he ha had hj) (fun a ha => by cases ha; rw [ht.size]; exact hh.lt b e0 ad he had) ?_
          simp only [BRep]
          refine ⟨by trivial, .inr ⟨ad, cs', el, rfl, hrow, by rw [hcs'sz, Nat.add_mul]; omega, fun j o hj ho => ?_⟩⟩
          have hpos : ∀ p : Nat, cs'[p]? = if ad.off + n * i.size ≤ p ∧ p < ad.off + n * i.size + news.length then news[p - (ad.off + n * i.size)]? else cs[p]? := by
           intro p
           rw [← hnew]
           simp only [List.getElem?_toArray, List.getElem?_append, List.length_append, List.length_take, Array.length_toList]
           have hmin : min (ad.off + n * i.size) cs.size = ad.off + n * i.size := by omega
           rw [hmin]
           by_cases c1 : p < ad.off + n * i.size
           ·rw [if_pos (by omega), if_pos c1, if_neg (by omega), List.getElem?_take, if_pos c1, Array.getElem?_toList]
           ·by_cases c2 : p < ad.off + n * i.size + news.length
            ·rw [if_pos c2, if_neg c1, if_pos ⟨by omega, c2⟩]
            ·rw [if_neg c2, if_neg (by omega), List.getElem?_drop, Array.getElem?_toList]
             congr 1; omega
          by_cases hjn : j < n
          ·have hj1 : j * i.size + o < n * i.size := by
            have : (j + 1) * i.size ≤ n * i.size := Nat.mul_le_mul_right _ (by omega)
            rw [Nat.succ_mul] at this; omega
           rcases hblk with hz0 | ⟨ad2, cs2, el2, had2, hcs2, hsz2, hrb⟩
           ·omega
           rw [had] at had2; cases had2
           rw [hcs] at hcs2; cases hcs2
           obtain ⟨c, h1, h2, h3⟩ := hrb j o (by omega) ho
           refine ⟨c, by rw [hpos, if_neg (by omega)]; exact h1, h2, ?_⟩
           simp only [appG, if_pos hjn]
           exact zu hext _ _ h3
          ·obtain ⟨c, h1, h2, h3⟩ := hnews (j - n) o (by omega) ho
           have hlt := (List.getElem?_eq_some_iff.1 h1).1
           have e1 : j * i.size = n * i.size + (j - n) * i.size := by rw [← Nat.add_mul]; congr 1; omega
           refine ⟨c, ?_, h2, ?_⟩
           ·rw [hpos, if_pos ⟨by omega, by omega⟩]
            rw [← h1]; congr 1; omega
           ·simp only [appG, if_neg hjn]
            exact zu hext _ _ h3
         ·refine ⟨fun k hk => by rw [ht.size]; exact hg.old k hk, fun j f a hf ha => ?_, hg.stat.ext hext⟩
          rcases List.mem_or_eq_of_mem_set (List.mem_of_getElem? hf) with hf' | rfl
          ·obtain ⟨j', hj'⟩ := List.mem_iff_getElem?.1 hf'
           exact hg.dis j' f a hj' ha
          ·cases ha; exact hg.dis b e0 ad he had
       ·
        obtain ⟨olds, hsold, hold0⟩ := yl (tx := t) (sz := i.size) (n := n) (g := zg g 0) hh hu hs0 (by simp [Jt, jQ, hb])
        have hol := hsold.newsLen
        have hlen := hroomlen _ hroom
        have hcl : (Builtin.firstCells i.size n (.slice a n cap)).run P w.drew = .ok olds.toArray w.drew := hsold.cellsD
        have hrun := run_append_grow_src (P := P) w t tx e (ty := ty) i z hu hi hz a n cap olds hcl vx n2 news hsrc (by omega) (by omega) (growslice_fits (by omega) (by simpa [qY] using hroom))
        have hh' := ZG hh
        have hg' : Good O w.drew σ := ⟨hg.old, hg.dis, hg.stat.ext ⟨rfl, rfl, rfl, Nat.le_refl _, fun _ _ _ => rfl, fun _ h => .inl h⟩⟩
        generalize hW : (Obj.cells ((olds ++ news).toArray ++ Builtin.zeroCells z.cells (grownCap w (n + n2) cap e - (n + n2))) e) = ob at hrun
        have hx0 := qb hh' ob (n + n2)
        have hown' : ∀ k, Own O (σ.set b ⟨some ⟨w.heap.size, 0, none⟩, n + n2⟩) k → Own O σ k ∨ w.heap.size ≤ k := by
         rintro k (hk | ⟨f, hf, a, ha, rfl⟩)
         ·exact .inl (.inl hk)
         rcases List.mem_or_eq_of_mem_set hf with hf | rfl
         ·exact .inl (.inr ⟨f, hf, a, ha, rfl⟩)
         ·cases ha; exact .inr (Nat.le_refl _)
        have hext : Ext (Own O σ) w (Own O (σ.set b ⟨some ⟨w.heap.size, 0, none⟩, n + n2⟩)) (w.drew.alloc ob) := ⟨hx0.os, hx0.tape, hx0.output, hx0.size, hx0.keep, hown'⟩
        have hold : Hold [b] w σ (w.drew.alloc ob) (σ.set b ⟨some ⟨w.heap.size, 0, none⟩, n + n2⟩) := by
         intro j f hf hj
         have hjb : b ≠ j := fun h => hj (by simp [h])
         obtain ⟨h1, h2⟩ := qy hh' ob ⟨none, 0⟩ j f hf (by simp)
         exact ⟨by rw [List.getElem?_set_ne hjb]; exact hf, h2⟩
        have hlast : (w.drew.alloc ob).heap[w.heap.size]? = some ob := heap_alloc_new w.drew ob
        have hge := grownCap_ge w (n + n2) cap e
        refine ⟨_, _, w.drew.alloc ob, σ.set b ⟨some ⟨w.heap.size, 0, none⟩, n + n2⟩, hrun, hq, ?_, hext, ?_, hold, ?_, fun k _ hk => Below.heap_alloc w.drew _ k hk, fun i e ad he had _ => Below.heap_alloc w.drew _ _ (hh.lt i e ad he had)⟩
        ·simp only [Rep]
         refine ⟨⟨some ⟨w.heap.size, 0, none⟩, n + n2⟩, by rw [List.getElem?_set_self (by rw [hh.len]; exact hbl)], by simp, _, _, rfl, hge, .inr ⟨⟨w.heap.size, 0, none⟩, rfl, by simp, _, e, by rw [hlast, ← hW], ?_⟩⟩
         simp only [Nat.zero_add, Array.size_append, List.size_toArray, List.length_append, hol, hnl, size_zeroCells, hzs]
         rw [← Nat.add_mul, ← Nat.add_mul]
         exact Nat.mul_le_mul_right _ (by omega)
        ·simp only [zm]
         refine uD hh he hext hold (fun j f a hj hf ha => Below.heap_alloc w.drew ob _ (hh.lt j f a hf ha)) (fun j f a a' hj hf ha ha' => by cases ha'; exact Nat.ne_of_lt (hh.lt j f a hf ha)) (fun a ha => by cases ha; simp) ?_
         simp only [BRep]
         refine ⟨by trivial, .inr ⟨⟨w.heap.size, 0, none⟩, _, e, rfl, by rw [hlast, ← hW], by simp [hol, hnl, ← Nat.add_mul, Nat.add_mul], fun j o hj ho => ?_⟩⟩
         have hd : Ext (Own O σ) w (Own O σ) w.drew := ⟨rfl, rfl, rfl, Nat.le_refl _, fun _ _ _ => rfl, fun _ h => .inl h⟩
         by_cases hjn : j < n
         ·obtain ⟨c, h1, h2, h3⟩ := hold0 j o hjn ho
          have hlt := (List.getElem?_eq_some_iff.1 h1).1
          refine ⟨c, ?_, h2, ?_⟩
          ·simp only [Nat.zero_add]
           rw [Array.getElem?_append_left (by simp; omega)]
           simp only [List.getElem?_toArray]
           rw [List.getElem?_append_left hlt]; exact h1
          ·simp only [appG, if_pos hjn]
           simp only [zg, Nat.zero_add] at h3
           exact zu hext _ _ h3
         ·obtain ⟨c, h1, h2, h3⟩ := hnews (j - n) o (by omega) ho
          have hlt := (List.getElem?_eq_some_iff.1 h1).1
          have e1 : j * i.size = n * i.size + (j - n) * i.size := by rw [← Nat.add_mul]; congr 1; omega
          refine ⟨c, ?_, h2, ?_⟩
          ·simp only [Nat.zero_add]
           rw [Array.getElem?_append_left (by simp; omega)]
           simp only [List.getElem?_toArray]
           rw [List.getElem?_append_right (by omega), ← h1]; congr 1; omega
          ·simp only [appG, if_neg hjn]
           exact zu hext _ _ h3
        ·refine ⟨fun k hk => by have := hg.old k hk; simp; omega, fun j f a hf ha => ?_, hg.stat.ext hext⟩
         rcases List.mem_or_eq_of_mem_set (List.mem_of_getElem? hf) with hf' | rfl
         ·obtain ⟨j', hj'⟩ := List.mem_iff_getElem?.1 hf'
          exact hg.dis j' f a hj' ha
         ·cases ha
          intro hO
          have := hg.old _ hO
          simp at this
      ·exact hq.elim
     ·exact hq.elim
    ·exact hq.elim
  ·exact hq.elim
 ·exact hq.elim
end
end Go.Sx
end

/- Calls by contract; all operations in one. -/
section
namespace Go.Sx
variable [Stat]
open Go.RowKit (Below)
def y2 (P : Program) (g : Nat) (vals : Array Value) (w : World) (R : Value → World → Prop) : Prop :=
 ((callFunc g vals).run P w = .ok (.enter g vals) w ∧ Calls P g vals w fun e w' => ∃ v, e = .returned v ∧ R v w') ∨
 ∃ v w', (callFunc g vals).run P w = .ok (.value v) w' ∧ R v w'
def Mine (σ : List SE) (b : Nat) : Prop := ∃ e ∈ σ, ∃ ad, e.ad = some ad ∧ ad.block = b
def qx (P : Program) (g : Nat) (c : Ctr) (args : List AV) (hc : Heap) (Q : AV × Heap → Prop) : Prop :=
 ∀ (O : Nat → Prop) (w : World) (σ : List SE) (vals : List Value), Good O w σ → HRep (Own O σ) w σ hc → RepL (Own O σ) w args σ vals →
  y2 P g vals.toArray w fun v w' => ∃ r hs σ', Q (r, hs) ∧ Rep (fun b => Own O σ' b ∨ (c.fresh = true ∧ b < w.heap.size)) w' r σ' v ∧
   HRep (fun b => Own O σ' b ∨ (c.fresh = true ∧ b < w.heap.size)) w' σ' hs ∧ Good O w' σ' ∧ hc.length ≤ hs.length ∧ Hold (if c.wv = true then List.range hc.length else []) w σ w' σ' ∧ Ext (Mine σ) w (Mine σ') w'
def zb (P : Program) (g : Nat) (c : Ctr) : Prop := ∀ (args : List AV) (hc : Heap) (Q : AV × Heap → Prop), (c.spec args hc).holds Q → (c.fresh = true → hc = []) → qx P g c args hc Q
def mrg {α : Type} : List α → List Nat → List α → List α
 | h, [], hs => h ++ hs
 | h, i :: L, b :: hs => mrg (h.set i b) L hs
 | h, _ :: _, [] => h
theorem vL : ∀ {L : List Nat} {i j : Nat}, z5 L i = some j → L[j]? = some i
 | [], i, j, h => by simp [z5] at h
 | x :: L, i, j, h => by
  simp only [z5] at h
  split at h
  ·rename_i hx; cases h; simp [hx]
  ·cases hp : z5 L i with
   | none => simp [hp] at h
   | some k =>
    simp only [hp, Option.map_some, Option.some.injEq] at h
    subst h
    simpa using vL hp
theorem qT : ∀ {L : List Nat} {i : Nat}, z5 L i = none ↔ i ∉ L
 | [], i => by simp [z5]
 | x :: L, i => by
  simp only [z5, List.mem_cons, not_or]
  split
  ·rename_i hx; simp [hx]
  ·rename_i hx
   rw [Option.map_eq_none_iff, qT]
   constructor
   ·exact fun h => ⟨fun e => hx e.symm, h⟩
   ·exact fun h => h.2
theorem w4 : ∀ {L : List Nat} {i j : Nat}, wG L = true → L[j]? = some i → z5 L i = some j
 | [], i, j, _, h => by simp at h
 | x :: L, i, 0, _, h => by simp at h; simp [z5, h]
 | x :: L, i, j + 1, hn, h => by
  simp only [wG, Bool.and_eq_true, Bool.not_eq_true', List.contains_eq_mem, decide_eq_false_iff_not] at hn
  simp only [List.getElem?_cons_succ] at h
  have hne : x ≠ i := fun e => hn.1 (e ▸ List.mem_of_getElem? h)
  simp [z5, hne, w4 hn.2 h]
theorem yB {α : Type} : ∀ {L : List Nat} {h hs : List α}, (∀ i ∈ L, i < h.length) → wG L = true → L.length ≤ hs.length → ∀ k, (mrg h L hs)[k]? = match z5 L k with
  | some j => hs[j]?
  | none => if k < h.length then h[k]? else hs[L.length + (k - h.length)]?
 | [], h, hs, _, _, _, k => by
  simp only [mrg, z5, List.length_nil, Nat.zero_add, List.getElem?_append]
 | i :: L, h, [], _, _, hl, k => by simp at hl
 | i :: L, h, b :: hs, hL, hn, hl, k => by
  simp only [wG, Bool.and_eq_true, Bool.not_eq_true', List.contains_eq_mem, decide_eq_false_iff_not] at hn
  simp only [mrg]
  rw [yB (fun j hj => by simpa using hL j (by simp [hj])) hn.2 (by simpa using hl)]
  simp only [z5]
  by_cases hik : i = k
  ·subst hik
   rw [qT.2 hn.1]
   have := hL i (by simp)
   simp [this]
  ·rw [if_neg hik]
   cases hp : z5 L k with
   | some j => simp
   | none =>
    simp only [Option.map_none, List.length_set, List.length_cons]
    rw [List.getElem?_set_ne hik]
    split
    ·rfl
    ·rw [show L.length + 1 + (k - h.length) = (L.length + (k - h.length)) + 1 by omega, List.getElem?_cons_succ]
theorem kN {α : Type} : ∀ {L : List Nat} {h hs : List α}, L.length ≤ hs.length → (mrg h L hs).length = h.length + (hs.length - L.length)
 | [], h, hs, _ => by simp [mrg]
 | i :: L, h, [], hl => by simp at hl
 | i :: L, h, b :: hs, hl => by
  simp only [mrg]
  rw [kN (by simpa using hl)]
  simp
theorem QO : ∀ {L : List Nat} {h hs : Heap}, (∀ i ∈ L, i < h.length) → L.length ≤ hs.length → zm h (jT L h.length hs) = mrg h L hs
 | [], h, [], _, _ => by simp [jT, zm, mrg]
 | [], h, b :: hs, hL, _ => by
  simp only [jT, zm, qa, Nat.lt_irrefl, if_false, mrg]
  have := QO (L := []) (h := h ++ [b]) (hs := hs) (by simp) (by simp)
  simp only [List.length_append, List.length_cons, List.length_nil, Nat.zero_add, mrg] at this
  rw [this]; simp
 | i :: L, h, [], _, hl => by simp at hl
 | i :: L, h, b :: hs, hL, hl => by
  simp only [jT, zm, qa, if_pos (hL i (by simp)), mrg]
  have := QO (L := L) (h := h.set i b) (hs := hs) (fun j hj => by simpa using hL j (by simp [hj])) (by simpa using hl)
  simpa using this
theorem uO : ∀ {L : List Nat} {d : Nat} {hs : List Blk}, L.length ≤ hs.length → ∀ i ∈ L, i ∈ (jT L d hs).map (·.1)
 | [], d, hs, _, i, h => by cases h
 | x :: L, d, [], hl, i, h => by simp at hl
 | x :: L, d, b :: hs, hl, i, h => by
  simp only [jT, List.map_cons, List.mem_cons]
  rcases List.mem_cons.1 h with rfl | h
  ·exact .inl rfl
  ·exact .inr (uO (by simpa using hl) i h)
section
variable {O : Nat → Prop} {w : World} {σ : List SE} {P : Program}
theorem Jh {h : Heap} (hg : Good O w σ) (hh : HRep (Own O σ) w σ h) {a a' : AV} {v : Value} {k K : List Nat} (ha : Rep (Own O σ) w a σ v) (hf : frz h a = some (a', k)) (hk : ∀ i ∈ k, i ∈ K) : Rep (Own O (frzS K σ)) w a' [] v := by
 cases a with
 | agg cs =>
  simp only [frz] at hf
  split at hf
  ·rename_i cs' k' hf'
   simp only [Option.some.injEq, Prod.mk.injEq] at hf
   obtain ⟨rfl, rfl⟩ := hf
   simp only [Rep] at ha ⊢
   obtain ⟨vs, hv, hr⟩ := ha
   exact ⟨vs, hv, (w6 hg hh hr hf' hk).1⟩
  ·cases hf
 | tup cs =>
  simp only [frz] at hf
  split at hf
  ·rename_i cs' k' hf'
   simp only [Option.some.injEq, Prod.mk.injEq] at hf
   obtain ⟨rfl, rfl⟩ := hf
   simp only [Rep] at ha ⊢
   obtain ⟨vs, hv, hr⟩ := ha
   exact ⟨vs, hv, (w6 hg hh hr hf' hk).1⟩
  ·cases hf
 | _ => exact (kS hg hh ha (by simpa only [frz] using hf) hk).1
theorem kI {h : Heap} (hg : Good O w σ) (hh : HRep (Own O σ) w σ h) {K : List Nat} : ∀ {as : List AV} {l : List (AV × List Nat)} {vs : List Value}, RepL (Own O σ) w as σ vs → as.mapM (fun a => frz h a) = some l → (∀ p ∈ l, ∀ i ∈ p.2, i ∈ K) →
  RepL (Own O (frzS K σ)) w (l.map (·.1)) [] vs
 | [], l, vs, hr, hl, hk => by
  simp at hl; subst hl
  simpa [RepL] using hr
 | a :: as, l, vs, hr, hl, hk => by
  simp only [List.mapM_cons, Option.bind_eq_bind, Option.bind_eq_some_iff, Option.pure_def, Option.some.injEq] at hl
  obtain ⟨p, hp, q, hq, rfl⟩ := hl
  simp only [RepL] at hr ⊢
  obtain ⟨v, r, rfl, h1, h2⟩ := hr
  exact ⟨v, r, rfl, Jh hg hh h1 (by simpa using hp) (fun i hi => hk p (by simp) i hi), kI hg hh h2 hq (fun x hx => hk x (by simp [hx]))⟩
theorem vI {own own' : Nat → Prop} {w : World} {a : AV} {v : Value} {σ : List SE} (h : ∀ b, own' b → own b) (hr : Rep own w a σ v) : Rep own' w a σ v :=
 q6 (K := []) (w2 := w) ⟨rfl, rfl, rfl, Nat.le_refl _, fun _ _ _ => rfl, fun b hb => .inl (h b hb)⟩ (Hold.refl [] w σ) a v (jG a) hr
theorem jC {own : Nat → Prop} {w : World} {σ1 σ2 : List SE} {f : Nat → Option Nat} (hf : ∀ i j, f i = some j → σ2[j]? = σ1[i]?) {a : AV} {v : Value} (h : Rep own w a σ1 v) : Rep own w (ren0 f a) σ2 v := by
 cases a with
 | osl i sz off n =>
  simp only [ren0]
  split
  ·rename_i j hj
   simp only [Rep] at h ⊢
   rw [hf i j hj]; exact h
  ·simp [Rep]
 | ptr i off =>
  simp only [ren0]
  split
  ·rename_i j hj
   simp only [Rep] at h ⊢
   rw [hf i j hj]; exact h
  ·simp [Rep]
 | eptr i sz idx off =>
  simp only [ren0]
  split
  ·rename_i j hj
   simp only [Rep] at h ⊢
   rw [hf i j hj]; exact h
  ·simp [Rep]
 | fn g a b =>
  simp only [ren0]
  split
  ·simp only [Rep, RepL] at h ⊢; exact h
  ·simp [Rep]
 | agg _ => simp [ren0, Rep]
 | tup _ => simp [ren0, Rep]
 | opt _ _ _ => simp [ren0, Rep]
 | undef => simp [ren0, Rep]
 | sl n sz g => exact Rep.any (a := .sl n sz g) (by simpa only [Rep] using h) _
 | iptr n g => exact Rep.any (a := .iptr n g) (by simpa only [Rep] using h) _
 | _ => simp only [ren0, Rep] at h ⊢; exact h
theorem RepL.map2 {own : Nat → Prop} {w : World} {σ1 σ2 : List SE} {f : AV → AV} (hf : ∀ a v, Rep own w a σ1 v → Rep own w (f a) σ2 v) {l : List AV} {vs : List Value} (h : RepL own w l σ1 vs) : RepL own w (l.map f) σ2 vs := by
 refine zq.2 ⟨by simp [h.length], fun i x u hx hu => ?_⟩
 simp only [List.getElem?_map] at hx
 cases hl : l[i]? with
 | none => simp [hl] at hx
 | some y =>
  simp only [hl, Option.map_some, Option.some.injEq] at hx
  subst hx
  exact hf y u ((zq.1 h).2 i y u hl hu)
theorem wq {own : Nat → Prop} {w : World} {σ1 σ2 : List SE} {f : Nat → Option Nat} (hf : ∀ i j, f i = some j → σ2[j]? = σ1[i]?) {a : AV} {v : Value} (h : Rep own w a σ1 v) : Rep own w (ren1 f a) σ2 v := by
 cases a with
 | agg cs =>
  simp only [ren1, Rep] at h ⊢
  obtain ⟨vs, hv, hr⟩ := h
  exact ⟨vs, hv, hr.map2 fun a v => jC hf⟩
 | fn g a b =>
  simp only [ren1, Rep] at h ⊢
  obtain ⟨va, vb, hv, h1, h2⟩ := h
  exact ⟨va, vb, hv, h1.map2 fun a v => jC hf, h2.map2 fun a v => jC hf⟩
 | _ => simp only [ren1]; exact jC hf h
theorem uv {own : Nat → Prop} {w : World} {σ1 σ2 : List SE} {f : Nat → Option Nat} (hf : ∀ i j, f i = some j → σ2[j]? = σ1[i]?) {a : AV} {v : Value} (h : Rep own w a σ1 v) : Rep own w (ren2 f a) σ2 v := by
 cases a with
 | tup cs =>
  simp only [ren2, Rep] at h ⊢
  obtain ⟨vs, hv, hr⟩ := h
  exact ⟨vs, hv, hr.map2 fun a v => wq hf⟩
 | fn g a b =>
  simp only [ren2, Rep] at h ⊢
  obtain ⟨va, vb, hv, h1, h2⟩ := h
  exact ⟨va, vb, hv, h1.map2 fun a v => wq hf, h2.map2 fun a v => wq hf⟩
 | _ => simp only [ren2]; exact wq hf h
theorem kZ {own : Nat → Prop} {w : World} {σ1 σ2 : List SE} {f : Nat → Option Nat} (hf : ∀ i j, f i = some j → σ2[j]? = σ1[i]?) {e : SE} {b : Blk} (h : BRep own w σ1 e b) : BRep own w σ2 e (renB f b) := by
 cases b with
 | dead => trivial
 | box cs =>
  simp only [renB, BRep] at h ⊢
  obtain ⟨ad, vs, el, h1, h2, h3, h4⟩ := h
  exact ⟨ad, vs, el, h1, h2, h3, h4.map2 fun a v => wq hf⟩
 | arr n sz g => exact h
theorem JY {own own' : Nat → Prop} {w : World} {σ : List SE} {e : SE} {b : Blk} (ho : ∀ k, own' k → own k) (h : BRep own w σ e b) : BRep own' w σ e b := by
 cases b with
 | dead => trivial
 | box cs =>
  simp only [BRep] at h ⊢
  obtain ⟨ad, vs, el, h1, h2, h3, h4⟩ := h
  refine ⟨ad, vs, el, h1, h2, h3, zq.2 ⟨h4.length, fun i x u hx hu => vI ho ((zq.1 h4).2 i x u hx hu)⟩⟩
 | arr n sz g =>
  simp only [BRep] at h ⊢
  obtain ⟨h1, h2 | ⟨ad, cs, el, h3, h4, h5, h6⟩⟩ := h
  ·exact ⟨h1, .inl h2⟩
  ·refine ⟨h1, .inr ⟨ad, cs, el, h3, h4, h5, fun j o hj ho' => ?_⟩⟩
   obtain ⟨c, h7, h8, h9⟩ := h6 j o hj ho'
   exact ⟨c, h7, h8, vI ho h9⟩
theorem zy {b : Nat} : Mine σ b ↔ ∃ (i : Nat) (e : SE) (ad : Addr), σ[i]? = some e ∧ e.ad = some ad ∧ ad.block = b := by
 constructor
 ·rintro ⟨e, he, ad, h1, h2⟩
  obtain ⟨i, hi⟩ := List.mem_iff_getElem?.1 he
  exact ⟨i, e, ad, hi, h1, h2⟩
 ·rintro ⟨i, e, ad, hi, h1, h2⟩
  exact ⟨e, List.mem_of_getElem? hi, ad, h1, h2⟩
theorem uM {h : Heap} (hg : Good O w σ) (hh : HRep (Own O σ) w σ h) {L : List Nat} (hL : ∀ i ∈ L, i < h.length) (hn : wG L = true) {σc σ' : List SE} (hσc : ∀ j : Nat, σc[j]? = (L[j]?).bind fun i => σ[i]?)
  {own' : Nat → Prop} {w' : World} {r : AV} {v : Value} {hs : Heap} {Kc K : List Nat} (hown : ∀ b, Own O (mrg σ L σ') b → own' b) (hR : Rep own' w' r σ' v) (hH : HRep own' w' σ' hs) (hlen : L.length ≤ hs.length)
  (hE : Ext (Mine σc) w (Mine σ') w') (hG : Good O w' σ') (hhold : Hold Kc w σc w' σ') (hK : K = L ∨ (K = [] ∧ Kc = [])) :
  Post O w σ h ⟨ren2 (jS L h.length) r, jT L h.length (hs.map (renB (jS L h.length))), K⟩ v w' (mrg σ L σ') := by
 have hl' : L.length ≤ σ'.length := by rw [hH.len]; exact hlen
 have hLσ : ∀ i ∈ L, i < σ.length := by rw [hh.len]; exact hL
 have hget := yB (h := σ) (hs := σ') hLσ hn hl'
 have hback : ∀ i j, jS L h.length i = some j → (mrg σ L σ')[j]? = σ'[i]? := by
  intro i j hb
  simp only [jS] at hb
  rw [hget]
  split at hb
  ·rw [w4 hn hb]
  ·rename_i hi
   cases hb
   have : z5 L (h.length + (i - L.length)) = none := qT.2 fun hm => by have := hL _ hm; omega
   rw [this]
   simp only [hh.len]
   rw [if_neg (by omega)]
   congr 1; omega
 have hcases : ∀ (k : Nat) (e : SE), (mrg σ L σ')[k]? = some e → (∃ j, σ'[j]? = some e ∧ (L[j]? = some k ∨ (L.length ≤ j ∧ h.length ≤ k ∧ k = h.length + (j - L.length)))) ∨ (k ∉ L ∧ σ[k]? = some e) := by
  intro k e he
  rw [hget] at he
  split at he
  ·rename_i j hj
   exact .inl ⟨j, he, .inl (vL hj)⟩
  ·rename_i hj
   split at he
   ·exact .inr ⟨qT.1 hj, he⟩
   ·rename_i hlt
    rw [hh.len] at he hlt
    exact .inl ⟨_, he, .inr ⟨by omega, by omega, by omega⟩⟩
 have hminec : ∀ b, Mine σc b → ∃ (i : Nat) (e : SE) (ad : Addr), i ∈ L ∧ σ[i]? = some e ∧ e.ad = some ad ∧ ad.block = b := by
  intro b hb
  obtain ⟨j, e, ad, h1, h2, h3⟩ := zy.1 hb
  rw [hσc] at h1
  cases hLj : L[j]? with
  | none => simp [hLj] at h1
  | some i => simp only [hLj, Option.bind_some] at h1; exact ⟨i, e, ad, List.mem_of_getElem? hLj, h1, h2, h3⟩
 have hapart : ∀ (k : Nat) (e : SE) (ad : Addr), k ∉ L → σ[k]? = some e → e.ad = some ad → ¬ Mine σc ad.block := by
  intro k e ad hk he had hm
  obtain ⟨i, f, ad', hi, hf, ha, hb⟩ := hminec _ hm
  exact hh.inj i k f e ad' ad hf he ha had (fun e => hk (e ▸ hi)) hb
 have hnew : ∀ (j : Nat) (f : SE) (a : Addr), σ'[j]? = some f → f.ad = some a → Mine σc a.block ∨ w.heap.size ≤ a.block := fun j f a hf ha => hE.grow _ (zy.2 ⟨j, f, a, hf, ha, rfl⟩)
 have hkeep : ∀ (k : Nat) (e : SE) (ad : Addr), k ∉ L → σ[k]? = some e → e.ad = some ad → w'.heap[ad.block]? = w.heap[ad.block]? := fun k e ad hk he had =>
  hE.keep _ (hh.lt k e ad he had) (hapart k e ad hk he had)
 have hOc : ∀ b, O b → ¬ Mine σc b := by
  intro b hb hm
  obtain ⟨i, e, ad, _, h1, h2, rfl⟩ := hminec b hm
  exact hg.dis i e ad h1 h2 hb
 have hext : Ext (Own O σ) w (Own O (mrg σ L σ')) w' := by
  refine ⟨hE.os, hE.tape, hE.output, hE.size, fun b hb hno => hE.keep b hb (fun hm => hno ?_), ?_⟩
  ·obtain ⟨i, e, ad, _, h1, h2, h3⟩ := hminec b hm
   exact .inr (zy.2 ⟨i, e, ad, h1, h2, h3⟩)
  ·rintro b (hb | hb)
   ·exact .inl (.inl hb)
   ·obtain ⟨k, e, ad, h1, h2, h3⟩ := zy.1 hb
    rcases hcases k e h1 with ⟨j, hj, _⟩ | ⟨_, hk⟩
    ·rcases hnew j e ad hj h2 with hm | hm
     ·obtain ⟨i, f, ad', _, h4, h5, h6⟩ := hminec _ hm
      exact .inl (.inr (zy.2 ⟨i, f, ad', h4, h5, h6.trans h3⟩))
     ·exact .inr (h3 ▸ hm)
    ·exact .inl (.inr (zy.2 ⟨k, e, ad, hk, h2, h3⟩))
 have hold : Hold K w σ w' (mrg σ L σ') := by
  intro i e he hi
  have hlt := (List.getElem?_eq_some_iff.1 he).1
  by_cases hiL : i ∈ L
  ·rcases hK with rfl | ⟨rfl, rfl⟩
   ·exact absurd hiL hi
   ·obtain ⟨j, hj⟩ := List.mem_iff_getElem?.1 hiL
    have hc : σc[j]? = some e := by rw [hσc, hj]; exact he
    obtain ⟨h1, h2⟩ := hhold j e hc (by simp)
    refine ⟨?_, h2⟩
    rw [hget, w4 hn hj]; exact h1
  ·refine ⟨?_, fun ad had cs el hcs => ⟨cs, el, ?_, rfl⟩⟩
   ·rw [hget, qT.2 hiL]
    simp only [hlt, if_true]; exact he
   ·rw [hkeep i e ad hiL he had]; exact hcs
 have hrlen : L.length ≤ (hs.map (renB (jS L h.length))).length := by simpa using hlen
 refine ⟨vI hown (uv hback hR), hext, ?_, hold, ?_, fun b hb hlt => hE.keep b hlt (hOc b hb), ?_⟩
 ·have hkl : (zL K h).length = h.length := by simp [zQ]
  have heq : zm (zL K h) (jT L h.length (hs.map (renB (jS L h.length)))) = mrg (zL K h) L (hs.map (renB (jS L h.length))) := by
   rw [← hkl]
   exact QO (fun i hi => by rw [hkl]; exact hL i hi) (by simpa using hlen)
  simp only
  rw [heq]
  have hgetB := yB (h := zL K h) (hs := hs.map (renB (jS L h.length))) (fun i hi => by rw [hkl]; exact hL i hi) hn hrlen
  refine ⟨?_, ?_, ?_, ?_⟩
  ·rw [kN hl', kN hrlen, hkl, hh.len]; simp [hH.len]
  ·intro i j e f a b he hf ha hb hij
   rcases hcases i e he with ⟨i', hi', hi2⟩ | ⟨hiL, hi⟩ <;> rcases hcases j f hf with ⟨j', hj', hj2⟩ | ⟨hjL, hj⟩
   ·refine hH.inj i' j' e f a b hi' hj' ha hb ?_
    rintro rfl
    apply hij
    rcases hi2 with h1 | ⟨h1, h2, h3⟩ <;> rcases hj2 with h4 | ⟨h4, h5, h6⟩
    ·rw [h1] at h4; cases h4; rfl
    ·have := (List.getElem?_eq_some_iff.1 h1).1; omega
    ·have := (List.getElem?_eq_some_iff.1 h4).1; omega
    ·omega
   ·rcases hnew i' e a hi' ha with hm | hm
    ·exact fun e => hapart j f b hjL hj hb (e ▸ hm)
    ·have := hh.lt j f b hj hb; omega
   ·rcases hnew j' f b hj' hb with hm | hm
    ·exact fun e' => hapart i e a hiL hi ha (e' ▸ hm)
    ·have := hh.lt i e a hi ha; omega
   ·exact hh.inj i j e f a b hi hj ha hb hij
  ·intro i e a he ha
   rcases hcases i e he with ⟨i', hi', _⟩ | ⟨_, hi⟩
   ·exact hH.lt i' e a hi' ha
   ·exact Nat.lt_of_lt_of_le (hh.lt i e a hi ha) hE.size
  ·intro i e b he hb
   rw [hgetB] at hb
   rw [hget] at he
   cases hp : z5 L i with
   | some j =>
    simp only [hp, List.getElem?_map] at he hb
    cases hsj : hs[j]? with
    | none => simp [hsj] at hb
    | some b0 =>
     simp only [hsj, Option.map_some, Option.some.injEq] at hb
     subst hb
     exact JY hown (kZ hback (hH.blk j e b0 he hsj))
   | none =>
    simp only [hp] at he hb
    rw [hkl] at hb
    rw [hh.len] at he
    by_cases hlt : i < h.length
    ·simp only [hlt, if_true, zQ, List.getElem?_map] at he hb
     rw [List.getElem?_eq_getElem hlt] at hb
     simp only [Option.map_some, Option.some.injEq] at hb
     subst hb
     exact qC hext hold (hh.blk i e _ he (List.getElem?_eq_getElem hlt)) (fun ad had => hkeep i e ad (qT.1 hp) he had)
    ·simp only [hlt, if_false, List.getElem?_map] at he hb
     cases hsj : hs[L.length + (i - h.length)]? with
     | none => simp [hsj] at hb
     | some b0 =>
      simp only [hsj, Option.map_some, Option.some.injEq] at hb
      subst hb
      exact JY hown (kZ hback (hH.blk _ e b0 he hsj))
 ·refine ⟨fun b hb => Nat.lt_of_lt_of_le (hg.old b hb) hE.size, fun i e ad he had => ?_, hg.stat.ext hext⟩
  rcases hcases i e he with ⟨i', hi', _⟩ | ⟨_, hi⟩
  ·exact hG.dis i' e ad hi' had
  ·exact hg.dis i e ad hi had
 ·intro i e ad he had hi
  exact hkeep i e ad (fun hm => hi (uO hrlen i hm)) he had
theorem V0 {h : Heap} {Γ : Nat → Option Ctr} (hΓ : ∀ g c, Γ g = some c → zb P g c) (hg : Good O w σ) (hh : HRep (Own O σ) w σ h) {g : Nat} {args : List AV} {vals : List Value} {Q : Res → Prop}
  (ha : RepL (Own O σ) w args σ vals) (hq : (Ux Γ h g args).holds Q) : y2 P g vals.toArray w fun v w' => ∃ r σ', Q r ∧ Post O w σ h r v w' σ' := by
 simp only [Ux] at hq
 have hOσ : ∀ b, Own O σ b → b < w.heap.size := by
  rintro b (hb | hb)
  ·exact hg.old b hb
  ·obtain ⟨i, e, ad, h1, h2, rfl⟩ := zy.1 hb
   exact hh.lt i e ad h1 h2
 have map : ∀ {g vals w} {R R' : Value → World → Prop}, (∀ v w', R v w' → R' v w') → y2 P g vals w R → y2 P g vals w R' := by
  rintro g vals w R R' hRR (⟨h1, h2⟩ | ⟨v, w', h1, h2⟩)
  ·exact .inl ⟨h1, h2.mono fun e w' ⟨v, he, hR⟩ => ⟨v, he, hRR _ _ hR⟩⟩
  ·exact .inr ⟨v, w', h1, hRR _ _ h2⟩
 split at hq
 ·rename_i c hc
  have hok := hΓ g c hc
  split at hq
  ·
   rename_i hfr
   split at hq
   ·rename_i l hl
    rw [Tree.zi] at hq
    let K : List Nat := l.flatMap (·.2)
    have hK1 : ∀ p ∈ l, ∀ i ∈ p.2, i ∈ K := fun p hp i hi => List.mem_flatMap.2 ⟨p, hp, hi⟩
    have hargs := kI hg hh ha hl hK1
    have hO : ∀ b, Own O (frzS K σ) b → b < w.heap.size := fun b hb => hOσ b (vU hb)
    have hcall := hok _ [] _ hq (fun _ => rfl) (Own O (frzS K σ)) w [] vals ⟨hO, fun i e ad h => by simp at h, hg.stat.own (fun b hb => by rcases hb with hb | ⟨e, he, _⟩; exact vU hb; simp at he)⟩ ⟨rfl, fun i j e f a b h => by simp at h, fun i e a h => by simp at h, fun i e b h => by simp at h⟩
     (zq.2 ⟨hargs.length, fun i x u hx hu => vI (fun b hb => by rcases hb with hb | ⟨e, he, _⟩; exact hb; simp at he) ((zq.1 hargs).2 i x u hx hu)⟩)
    refine map ?_ hcall
    rintro v w' ⟨r, hs, σ', hQ, hR, hH, hG, hl2, hHo, hE⟩
    refine ⟨_, mrg σ [] σ', hQ, ?_⟩
    have hex : ∀ b, Mine ([] : List SE) b → False := fun b ⟨e, he, _⟩ => by simp at he
    refine uM hg hh (L := []) (σc := []) (Kc := []) (by simp) rfl (by simp) ?_ hR hH (by simp) hE ⟨fun b hb => hG.old b (.inl hb), fun i e ad he had hO' => hG.dis i e ad he had (.inl hO'), hG.stat.own (fun b hb => hb.imp .inl id)⟩ (fun i e h => by simp at h) (.inr ⟨rfl, rfl⟩)
    simp only [mrg]
    rintro b (hb | ⟨e, he, ad, h1, h2⟩)
    ·exact .inl (.inl (.inl hb))
    rcases List.mem_append.1 he with he | he
    ·exact .inr ⟨hfr, hOσ b (.inr ⟨e, he, ad, h1, h2⟩)⟩
    ·exact .inl (.inr ⟨e, he, ad, h1, h2⟩)
   ·exact hq.elim
  ·
   rename_i hfr
   simp only [zcm] at hq
   generalize reach h 60 (args.flatMap Ym) [] = L at hq
   split at hq
   ·rename_i hcond
    simp only [Bool.and_eq_true, List.all_eq_true, decide_eq_true_eq] at hcond
    obtain ⟨hL, hn⟩ := hcond
    rw [Tree.zi] at hq
    have hLσ : ∀ i ∈ L, i < σ.length := by rw [hh.len]; exact hL
    let σc : List SE := L.map fun i => σ.getD i ⟨none, 0⟩
    have hσc : ∀ j : Nat, σc[j]? = (L[j]?).bind fun i => σ[i]? := by
     intro j
     simp only [σc, List.getElem?_map]
     cases hj : L[j]? with
     | none => rfl
     | some i =>
      have := hLσ i (List.mem_of_getElem? hj)
      simp [this]
    have hcget : ∀ (j : Nat) (e : SE), σc[j]? = some e → ∃ i, L[j]? = some i ∧ σ[i]? = some e := by
     intro j e he
     rw [hσc] at he
     cases hj : L[j]? with
     | none => simp [hj] at he
     | some i => simp only [hj, Option.bind_some] at he; exact ⟨i, rfl, he⟩
    have hpos : ∀ i j, z5 L i = some j → σc[j]? = σ[i]? := by
     intro i j hp
     rw [hσc, vL hp]; rfl
    have hown : ∀ b, Own (Own O (frzS L σ)) σc b ↔ Own O σ b := by
     intro b
     constructor
     ·rintro (hb | hb)
      ·exact vU hb
      ·obtain ⟨j, e, ad, h1, h2, h3⟩ := zy.1 hb
       obtain ⟨i, _, hi⟩ := hcget j e h1
       exact .inr (zy.2 ⟨i, e, ad, hi, h2, h3⟩)
     ·rintro (hb | hb)
      ·exact .inl (.inl hb)
      ·obtain ⟨i, e, ad, h1, h2, h3⟩ := zy.1 hb
       by_cases hiL : i ∈ L
       ·obtain ⟨j, hj⟩ := List.mem_iff_getElem?.1 hiL
        exact .inr (zy.2 ⟨j, e, ad, by rw [hσc, hj]; exact h1, h2, h3⟩)
       ·exact .inl (.inr (zy.2 ⟨i, e, ad, by rw [jP, h1]; simp [hiL], h2, h3⟩))
    have hownEq : Own (Own O (frzS L σ)) σc = Own O σ := funext fun b => propext (hown b)
    have hgc : Good (Own O (frzS L σ)) w σc := by
     refine ⟨fun b hb => hOσ b (vU hb), fun j e ad he had hb => ?_, hg.stat.own fun b hb => (hown b).1 hb⟩
     obtain ⟨i, hj, hi⟩ := hcget j e he
     rcases yZ hb with hb | ⟨k, f, ad', h1, h2, h3, h4⟩
     ·exact hg.dis i e ad hi had hb
     ·exact hh.inj k i f e ad' ad h1 hi h3 had (fun e => h2 (e ▸ List.mem_of_getElem? hj)) h4
    have hhc : HRep (Own (Own O (frzS L σ)) σc) w σc (L.map fun i => renB (z5 L) (h.getD i .dead)) := by
     rw [hownEq]
     refine ⟨by simp [σc], ?_, ?_, ?_⟩
     ·intro i j e f a b he hf ha hb hij
      obtain ⟨i', h1, h2⟩ := hcget i e he
      obtain ⟨j', h3, h4⟩ := hcget j f hf
      refine hh.inj i' j' e f a b h2 h4 ha hb ?_
      rintro rfl
      have h5 := w4 hn h1
      have h6 := w4 hn h3
      rw [h5] at h6; cases h6; exact hij rfl
     ·intro i e a he ha
      obtain ⟨i', h1, h2⟩ := hcget i e he
      exact hh.lt i' e a h2 ha
     ·intro j e b he hb
      obtain ⟨i, h1, h2⟩ := hcget j e he
      simp only [List.getElem?_map, h1, Option.map_some, Option.some.injEq] at hb
      subst hb
      have hlt := hL i (List.mem_of_getElem? h1)
      have hgd : h.getD i .dead = h[i] := by simp [hlt]
      rw [hgd]
      exact kZ hpos (hh.blk i e _ h2 (List.getElem?_eq_getElem hlt))
    have hrc : RepL (Own (Own O (frzS L σ)) σc) w (args.map (ren2 (z5 L))) σc vals := by
     rw [hownEq]
     exact ha.map2 fun a v => uv hpos
    have hcall := hok _ _ _ hq (fun hf => by rw [hf] at hfr; cases hfr) (Own O (frzS L σ)) w σc vals hgc hhc hrc
    refine map ?_ hcall
    rintro v w' ⟨r, hs, σ', hQ, hR, hH, hG, hl2, hHo, hE⟩
    have hl2' : L.length ≤ hs.length := by simpa using hl2
    dsimp only at hQ
    rw [if_pos hl2'] at hQ
    refine ⟨_, mrg σ L σ', hQ, ?_⟩
    refine uM hg hh (L := L) (σc := σc) hL hn hσc ?_ hR hH hl2' hE ⟨fun b hb => hG.old b (.inl hb), fun i e ad he had hO' => hG.dis i e ad he had (.inl hO'), hG.stat.own (fun b hb => hb.imp .inl id)⟩ hHo ?_
    ·rintro b (hb | hb)
     ·exact .inl (.inl (.inl hb))
     ·left
      obtain ⟨k, e, ad, h1, h2, h3⟩ := zy.1 hb
      rw [yB hLσ hn (by rw [hH.len]; exact hl2')] at h1
      split at h1
      ·exact .inr (zy.2 ⟨_, e, ad, h1, h2, h3⟩)
      ·rename_i hp
       split at h1
       ·exact .inl (.inr (zy.2 ⟨k, e, ad, by rw [jP, h1]; simp [qT.1 hp], h2, h3⟩))
       ·exact .inr (zy.2 ⟨_, e, ad, h1, h2, h3⟩)
    ·cases hm : c.wv with
     | true => exact .inl rfl
     | false => exact .inr ⟨rfl, by simp⟩
   ·exact hq.elim
 ·exact hq.elim
end
end Go.Sx
end

/- All operations: what the executor says, the model does. -/
section
namespace Go.Sx
variable [Stat]
open Go.RowKit (Below)
section
variable {O : Nat → Prop} {w : World} {σ : List SE} {P : Program}
theorem xK {own : Nat → Prop} {b : Builtin} {t : Array TypeId} {ty : TypeId} {args : List Operand} {ρ : Operand → AV} {ρc : Operand → Value} (hρ : ∀ x, Rep own w (ρ x) σ (ρc x)) {Q : AV → Prop} (hq : (xj b (args.map ρ)).holds Q) :
  (b = .max → ∃ r v, (Builtin.max_ t ty (args.map ρc).toArray).run P w = .ok v w ∧ Q r ∧ Rep own w r σ v) ∧
  (b = .min → ∃ r v, (Builtin.min_ t ty (args.map ρc).toArray).run P w = .ok v w ∧ Q r ∧ Rep own w r σ v) := by
 match args, hq with
 | [x, y], hq =>
  have hx := hρ x
  have hy := hρ y
  simp only [List.map_cons, List.map_nil] at hq ⊢
  generalize ρ x = a at hx hq
  generalize ρ y = c at hy hq
  cases a with
  | int k m =>
   cases c with
   | int k' m' =>
    simp only [xj] at hq
    split at hq
    ·rename_i hk; subst hk
     simp only [Rep] at hx hy
     rw [hx, hy]
     constructor
     ·rintro rfl
      refine ⟨_, .int k (max m m'), ?_, hq, by simp [Rep]⟩
      simp [Builtin.max_, Builtin.max2]
      split <;> omega
     ·rintro rfl
      refine ⟨_, .int k (min m m'), ?_, hq, by simp [Rep]⟩
      simp [Builtin.min_, Builtin.min2]
      split <;> omega
    ·exact hq.elim
   | _ => exact hq.elim
  | _ => exact hq.elim
 | [], hq => exact hq.elim
 | [_], hq => simp only [List.map_cons, List.map_nil] at hq; generalize ρ _ = a at hq; cases a <;> exact hq.elim
 | _ :: _ :: _ :: _, hq =>
  simp only [List.map_cons] at hq
  generalize ρ _ = a at hq
  cases a <;> first | exact hq.elim | (rename_i hh; generalize ρ _ = a at hq; cases a <;> exact hq.elim) | skip
  all_goals (simp only [xj] at hq; exact hq.elim)
theorem xZ {own : Nat → Prop} {ρ : Operand → AV} {ρc : Operand → Value} (hρ : ∀ x, Rep own w (ρ x) σ (ρc x)) (l : List Operand) : RepL own w (l.map ρ) σ (l.map ρc) := zq.2 ⟨by simp, fun i a v ha hv => by
 simp only [List.getElem?_map] at ha hv
 cases hx : l[i]? with
 | none => simp [hx] at ha
 | some x =>
  simp only [hx, Option.map_some, Option.some.injEq] at ha hv
  subst ha; subst hv; exact hρ x⟩
theorem xi {ok ag : Bool} {sz : Nat} {get : Int → Nat → AV} {n : Int} {Q : AV → Prop} : ∀ {l : List Int}, (WQ ok ag sz get n l).holds Q → Q (we ok (yX ag sz (get n)) true)
 | [], h => h.elim
 | k :: l, h => by
  by_cases hk : n = k
  ·subst hk; exact h.1 (decide_eq_true rfl)
  ·exact xi (h.2 (decide_eq_false hk))
theorem uL {ok ag : Bool} {sz : Nat} {get : Int → Nat → AV} {n : Int} {Q : AV → Prop} : ∀ {l : List Int}, (JH ok ag sz get n l).holds Q → Q (we ok (yX ag sz (get n)) true)
 | [], h => h
 | _ :: _, h => xi h
theorem QC {own : Nat → Prop} {t : TypeId} {ok : Bool} {x i : AV} {vx vi : Value} (hx : Rep own w x σ vx) (hi2 : Rep own w i σ vi) {Q : AV → Prop} (hq : (xm P t ok x i).holds Q) :
  ∃ r v, (Instr.lookup t vx vi ok).run P w = .ok v w ∧ Q r ∧ Rep own w r σ v := by
 cases x with
 | mp k ag sz ks has get =>
  cases i with
  | int k' n =>
   simp only [xm] at hq
   split at hq
   ·rename_i kt et hu
    split at hq
    ·rename_i kk a z hk ha hz
     split at hq
     ·rename_i hc
      obtain ⟨rfl, rfl, rfl⟩ := hc
      simp only [Rep] at hx hi2
      obtain ⟨b, es, clock, rfl, hn, hlim, hb, hg⟩ := hx
      subst hi2
      have hck : ∀ e, (Instr.checkKey e 10000 kt (.int kk n)).run P w = .ok () w := fun e => Go.MapKept.run_checkKey hk (by simp [Go.MapKept.IsKey]) e 9999
      have hzr : (zeroValue et).run P w = .ok z w := by
       cases hin : P.info? et with
       | none => simp [hin] at hz
       | some inf =>
        simp only [hin, Option.bind_some] at hz
        simp [zeroValue, run_typeInfo w hin, hz]
      have hrun : ∀ r, Instr.findNow (.int kk) (.int kk n) es.toList 0 = some r → (Instr.lookup t (.map (some b)) (.int kk n) ok).run P w = (match r with
        | some (_, v) => .ok (if ok then .tuple #[v, .bool true] else v) w
        | none => .ok (if ok then .tuple #[z, .bool false] else z) w) := by
       intro r hr
       simp only [Instr.lookup, Sem.run_bind, run_underlying hu, Result.andThen_ok, Sem.run_pure, Go.MapKept.run_getObj_map hb, hck, Go.MapKept.run_findKey hk hr]
       cases r with
       | none => simp [hzr]
       | some p => simp
      cases hh : has n with
      | true =>
       obtain ⟨j, y, h1, h2⟩ := (hg n).2 hh
       have hq1 := uL (hq.1 hh)
       have hy : Rep own w (yX a sz (get n)) σ y := by
        cases a with
        | true =>
         obtain ⟨vs, rfl, hl, hr⟩ := h2
         simp only [yX, cond_true, Rep]
         refine ⟨vs, rfl, zq.2 ⟨by simp [hl], fun o c v hc hv => ?_⟩⟩
         have ho : o < sz := by rw [← hl]; exact (List.getElem?_eq_some_iff.1 hv).1
         obtain ⟨c', g1, g2⟩ := hr o ho
         rw [hv] at g1; cases g1
         simp [ho] at hc
         subst hc
         exact q6 (K := []) (Ext.refl own w) (fun i e he => by simp at he) _ v (jG _) g2
        | false =>
         simp only [yX, cond_false]
         exact q6 (K := []) (Ext.refl own w) (fun i e he => by simp at he) _ y (jG _) h2
       refine ⟨_, _, hrun _ h1, hq1, ?_⟩
       cases ok with
       | true =>
        simp only [we, cond_true, if_true, Rep]
        exact ⟨[y, .bool true], rfl, by simp only [RepL]; exact ⟨_, _, rfl, hy, _, _, rfl, by simp [Rep], rfl⟩⟩
       | false => simpa [we] using hy
      | false =>
       have h1 := (hg n).1 hh
       have hq1 := hq.2 hh
       have hy : Rep own w (yu z) σ z := wX z
       refine ⟨_, _, hrun _ h1, hq1, ?_⟩
       cases ok with
       | true =>
        simp only [we, cond_true, if_true, Rep]
        exact ⟨[z, .bool false], rfl, by simp only [RepL]; exact ⟨_, _, rfl, hy, _, _, rfl, by simp [Rep], rfl⟩⟩
       | false => simpa [we] using hy
     ·exact hq.elim
    ·exact hq.elim
   ·exact hq.elim
  | _ => simp only [xm] at hq; exact hq.elim
 | _ => simp only [xm] at hq; exact hq.elim
theorem KO {h : Heap} {own : Nat → Prop} (hh : HRep own w σ h) {ρ : Operand → AV} {ρc : Operand → Value} (hρ : ∀ x, Rep own w (ρ x) σ (ρc x)) {o : Oper} {Q : AV → Prop} (hq : (valX P ρ h o.op).holds Q) :
  ∃ r v, (execOp ρc o).run P w = .ok (.value v) w ∧ Q r ∧ Rep own w r σ v := by
 cases ho : o.op <;> rw [ho] at hq <;> simp only [valX] at hq <;> try exact hq.elim
 case move x => exact ⟨_, _, by simp only [execOp, ho]; rfl, hq, hρ x⟩
 case assign x => exact ⟨_, _, by simp only [execOp, ho]; rfl, hq, hρ x⟩
 case build t parts =>
  obtain ⟨r, v, h1, h2⟩ := JR hρ hq
  exact ⟨r, v, by simp only [execOp, ho, Sem.run_bind, h1, Result.andThen_ok, Sem.run_pure], h2⟩
 case load t a =>
  obtain ⟨r, v, h1, h2⟩ := yQ hh (hρ a) hq
  exact ⟨r, v, by simp only [execOp, ho, Sem.run_bind, h1, Result.andThen_ok, Sem.run_pure], h2⟩
 case nilCheck x => exact X4 ho (hρ x) hq
 case binOp op t x y yt =>
  obtain ⟨r, v, h1, h2⟩ := KQ (x := x) (y := y) (hρ x) (hρ y) hq
  exact ⟨r, v, by simp only [execOp, ho, Sem.run_bind] at h1 ⊢; rw [h1]; rfl, h2⟩
 case unOp op t x =>
  obtain ⟨r, v, h1, h2⟩ := Uz (P := P) (hρ x) hq
  exact ⟨r, v, by simp only [execOp, ho, Sem.run_bind, h1, Result.andThen_ok, Sem.run_pure], h2⟩
 case convert s t x =>
  obtain ⟨r, v, h1, h2⟩ := Vi hh (hρ x) hq
  exact ⟨r, v, by simp only [execOp, ho, Sem.run_bind, h1, Result.andThen_ok, Sem.run_pure], h2⟩
 case makeFunc fn first cap =>
  cases fn with
  | func f =>
   refine ⟨_, .func (.func f) (first.map ρc) (cap.map ρc), by simp [execOp, ho, Instr.makeFunc], hq, ?_⟩
   simp only [Rep]
   exact ⟨first.toList.map ρc, cap.toList.map ρc, by rw [← Array.toList_map, ← Array.toList_map], xZ hρ _, xZ hρ _⟩
  | _ => exact hq.elim
 case slice t x l hi mx =>
  cases mx with
  | none =>
   obtain ⟨r, v, h1, h2⟩ := J5 hρ (hρ x) hq
   exact ⟨r, v, by simp only [execOp, ho, Sem.run_bind, Option.map_none, h1, Result.andThen_ok, Sem.run_pure], h2⟩
  | some m => exact hq.elim
 case fieldAddr t x f =>
  split at hq
  ·rename_i o' a b hf
   obtain ⟨r, v, h1, h2⟩ := yA hf (hρ x) hq
   exact ⟨r, v, by simp only [execOp, ho, Sem.run_bind, h1, Result.andThen_ok, Sem.run_pure], h2⟩
  ·exact hq.elim
 case field t x f =>
  obtain ⟨r, v, h1, h2⟩ := Jz (hρ x) hq
  exact ⟨r, v, by simp only [execOp, ho, Sem.run_bind, h1, Result.andThen_ok, Sem.run_pure], h2⟩
 case indexAddr t x i =>
  obtain ⟨r, v, h1, h2⟩ := Zs (hρ x) (hρ i) hq
  exact ⟨r, v, by simp only [execOp, ho, Sem.run_bind, h1, Result.andThen_ok, Sem.run_pure], h2⟩
 case index t x i =>
  obtain ⟨r, v, h1, h2⟩ := JV (hρ x) (hρ i) hq
  exact ⟨r, v, by simp only [execOp, ho, Sem.run_bind, h1, Result.andThen_ok, Sem.run_pure], h2⟩
 case lookup t x i ok =>
  obtain ⟨r, v, h1, h2⟩ := QC (hρ x) (hρ i) hq
  exact ⟨r, v, by simp only [execOp, ho, Sem.run_bind, h1, Result.andThen_ok, Sem.run_pure], h2⟩
 case extract t i =>
  obtain ⟨r, v, h1, h2⟩ := Zn (P := P) (hρ t) hq
  exact ⟨r, v, by simp only [execOp, ho, Sem.run_bind, h1, Result.andThen_ok, Sem.run_pure], h2⟩
 case call c =>
  obtain ⟨callee, args, ats⟩ := c
  cases callee with
  | builtin b =>
   cases b <;> try exact hq.elim
   case len =>
    obtain ⟨args⟩ := args
    obtain ⟨ats⟩ := ats
    match ats, args, hq with
    | [t], [x], hq =>
     obtain ⟨r, v, h1, h2⟩ := KK (ty := o.type) (hρ x) hq
     refine ⟨r, v, ?_, h2⟩
     simp only [execOp, ho, resolve, Sem.run_bind, Sem.run_pure, Result.andThen_ok, invoke, builtin, List.map_toArray, List.map_cons, List.map_nil]
     rw [h1]; rfl
    | [], _, hq => exact hq.elim
    | _ :: _ :: _, _, hq => exact hq.elim
    | [_], [], hq => exact hq.elim
    | [_], _ :: _ :: _, hq => exact hq.elim
   case max =>
    obtain ⟨r, v, h1, h2⟩ := (xK (P := P) (t := ats) (ty := o.type) hρ hq).1 rfl
    refine ⟨r, v, ?_, h2⟩
    simp only [execOp, ho, resolve, Sem.run_bind, Sem.run_pure, Result.andThen_ok, invoke, builtin]
    rw [show (args.map ρc) = (args.toList.map ρc).toArray by rw [← Array.toList_map], h1]; rfl
   case min =>
    obtain ⟨r, v, h1, h2⟩ := (xK (P := P) (t := ats) (ty := o.type) hρ hq).2 rfl
    refine ⟨r, v, ?_, h2⟩
    simp only [execOp, ho, resolve, Sem.run_bind, Sem.run_pure, Result.andThen_ok, invoke, builtin]
    rw [show (args.map ρc) = (args.toList.map ρc).toArray by rw [← Array.toList_map], h1]; rfl
  | _ => exact hq.elim
theorem Post.still {h : Heap} (hg : Good O w σ) (hh : HRep (Own O σ) w σ h) {r : AV} {v : Value} (hr : Rep (Own O σ) w r σ v) : Post O w σ h ⟨r, [], []⟩ v w σ :=
 ⟨hr, Ext.refl _ _, hh, Hold.refl _ _ _, hg, fun _ _ _ => rfl, fun _ _ _ _ _ _ => rfl⟩
theorem Yr {h : Heap} {Γ : Nat → Option Ctr} (hΓ : ∀ g c, Γ g = some c → zb P g c) (hg : Good O w σ) (hh : HRep (Own O σ) w σ h) {a : Act} {ρ : Operand → AV} (hρ : ∀ x, Rep (Own O σ) w (ρ x) σ (a.eval x)) {o : Oper}
  {Q : Res → Prop} (hq : (opX P Γ ρ h o.op).holds Q) {K : Act → World → Prop} {Qe : Exit → Act → World → Prop} (hK : ∀ r v w' σ', Q r → Post O w σ h r v w' σ' → K (a.put o.dst v) w') : o.wp P a w K Qe := by
 have hval : (valX P ρ h o.op).holds (fun v => Q ⟨v, [], []⟩) → o.wp P a w K Qe := fun hq => by
  obtain ⟨r, v, h1, h2, h3⟩ := KO (P := P) hh hρ hq
  unfold Oper.wp
  rw [h1]
  exact hK _ v w σ h2 (Post.still hg hh h3)
 cases ho : o.op <;> rw [ho] at hq hval <;> simp only [opX] at hq <;> try exact hval (Tree.zi.1 hq)
 case alloc t =>
  split at hq
  ·rename_i cs hz
   obtain ⟨v, hv, hr⟩ := wE (P := P) (own := Own O σ) (w := w) (σ := σ) hz
   unfold Oper.wp
   have : (execOp a.eval o).run P w = .ok (.value (.pointer (some ⟨w.heap.size, 0, none⟩))) (w.alloc (.cells v.cells t)) := by
    simp only [execOp, ho, Instr.alloc, Sem.run_bind, hv, Result.andThen_ok]
    simp [newVar, newRow]
   rw [this]
   have hp := yq hg hh (el := t) hr
   simp only [Array.toArray_toList] at hp
   exact hK _ _ _ _ hq hp
  ·exact hq.elim
 case box t x =>
  split at hq
  ·rename_i cs hc
   have hr := js hc (hρ x)
   unfold Oper.wp
   have : (execOp a.eval o).run P w = .ok (.value (.pointer (some ⟨w.heap.size, 0, none⟩))) (w.alloc (.cells (a.eval x).cells t)) := by
    simp only [execOp, ho, Instr.box, Sem.run_bind]
    simp [newVar, newRow]
   rw [this]
   have hp := yq hg hh (el := t) hr
   simp only [Array.toArray_toList] at hp
   exact hK _ _ _ _ hq hp
  ·exact hq.elim
 case buildSlice t len parts =>
  split at hq
  ·rename_i e hu
   split at hq
   ·rename_i zs sz hz hs
    split at hq
    ·rename_i hlen
     split at hq
     ·rename_i cs hf
      rw [Bool.cond_eq_ite] at hq
      split at hq
      ·obtain ⟨v, w', σ', h1, h2⟩ := u3 hg hh hρ hu hz hs hlen.1 hlen.2 hf
       unfold Oper.wp
       have : (execOp a.eval o).run P w = .ok (.value v) w' := by
        simp only [execOp, ho, Sem.run_bind, h1, Result.andThen_ok, Sem.run_pure]
       rw [this]
       exact hK _ _ _ _ hq h2
      split at hq
      ·rename_i cs' k hfr
       obtain ⟨v, w', σ', h1, h2⟩ := ya hg hh hρ hu hz hs hlen.1 hlen.2 hf hfr
       unfold Oper.wp
       have : (execOp a.eval o).run P w = .ok (.value v) w' := by
        simp only [execOp, ho, Sem.run_bind, h1, Result.andThen_ok, Sem.run_pure]
       rw [this]
       exact hK _ _ _ _ hq h2
      ·exact hq.elim
     ·exact hq.elim
    ·exact hq.elim
   ·exact hq.elim
  ·exact hq.elim
 case store t x y =>
  have hst : ∀ w', (Instr.storeAt t (a.eval x) (a.eval y)).run P w = .ok () w' → (execOp a.eval o).run P w = .ok .skip w' := fun w' h => by
   simp only [execOp, ho, Sem.run_bind, h, Result.andThen_ok, Sem.run_pure]
  have hx := hρ x
  have hy := hρ y
  generalize ρ x = ax at hx hq
  generalize ρ y = ay at hy hq
  cases ax with
  | ptr i off =>
   simp only [Vs] at hq
   split at hq
   ·rename_i cells n cv hb hn hc
    split at hq
    ·rename_i hcond
     obtain ⟨w', h1, h2⟩ := KW hg hh hx hb hn (js hc hy) hcond.1 hcond.2.1 hcond.2.2
     unfold Oper.wp
     rw [hst w' h1]
     exact hK _ _ _ _ hq h2
    ·exact hq.elim
   ·exact hq.elim
  | eptr i sz idx off =>
   simp only [Vs] at hq
   split at hq
   ·rename_i N sz' g n cv hb hn hc
    split at hq
    ·rename_i hcond
     split at hq
     ·rename_i cv' k hf
      split at hq
      ·exact hq.elim
      ·rename_i hk
       obtain ⟨rfl, hc1, hc2⟩ := hcond
       obtain ⟨w', σ', h1, h2⟩ := Xn hg hh hx hb hn (js hc hy) hc1 hc2 hf (by simpa using hk)
       unfold Oper.wp
       rw [hst w' h1]
       exact hK _ _ _ _ hq h2
     ·exact hq.elim
    ·exact hq.elim
   ·exact hq.elim
  | _ => exact hq.elim
 case makeSlice t l c =>
  split at hq
  ·rename_i e kl lv kc cv hu hl hc
   split at hq
   ·rename_i i z hi hz
    split at hq
    ·rename_i hcond
     obtain ⟨hsd, hq⟩ := hq
     have hQ := hq hsd
     have hl' := hρ l
     have hc' := hρ c
     rw [hl] at hl'
     rw [hc] at hc'
     simp only [Rep] at hl' hc'
     obtain ⟨v, w', σ', h1, h2⟩ := y9 (kl := kl) (kc := kc) hg hh hu hi hz hcond.1 hcond.2 hsd.1 hsd.2.1 hsd.2.2.1 hsd.2.2.2
     unfold Oper.wp
     have : (execOp a.eval o).run P w = .ok (.value v) w' := by
      simp only [execOp, ho, Sem.run_bind, hl', hc', h1, Result.andThen_ok, Sem.run_pure]
     rw [this]
     exact hK _ _ _ _ hQ h2
    ·exact hq.elim
   ·exact hq.elim
  ·exact hq.elim
 case call c =>
  obtain ⟨callee, args, ats⟩ := c
  cases callee with
  | builtin b =>
   by_cases hb : b = .append
   ·subst hb
    obtain ⟨args⟩ := args
    obtain ⟨ats⟩ := ats
    match ats, args, hq with
    | [t, tx], [x, y], hq =>
     obtain ⟨r, v, w', σ', h1, h2, h3⟩ := Ja (ty := o.type) hg hh (hρ x) (hρ y) hq
     unfold Oper.wp
     have : (execOp a.eval o).run P w = .ok (.value v) w' := by
      simp only [execOp, ho, resolve, Sem.run_bind, Sem.run_pure, Result.andThen_ok, invoke, builtin, List.map_toArray, List.map_cons, List.map_nil]
      rw [h1]; rfl
     rw [this]
     exact hK _ _ _ _ h2 h3
    | [], _, hq => exact hq.elim
    | [_], _, hq => exact hq.elim
    | _ :: _ :: _ :: _, _, hq => exact hq.elim
    | [_, _], [], hq => exact hq.elim
    | [_, _], [_], hq => exact hq.elim
    | [_, _], _ :: _ :: _ :: _, hq => exact hq.elim
   ·refine hval ?_
    cases b <;> first | exact absurd rfl hb | exact Tree.zi.1 hq
  | invoke r m => exact hq.elim
  | value f =>
   have hf := hρ f
   simp only at hq
   generalize ρ f = af at hf hq
   cases af with
   | fn g first cap =>
    simp only [Rep] at hf
    obtain ⟨va, vb, hv, h1, h2⟩ := hf
    have hargs := (h1.app (xZ hρ args.toList)).app h2
    have hc := V0 (P := P) hΓ hg hh hargs hq
    have hcall : (execOp a.eval o).run P w = (callFunc g (va ++ args.toList.map a.eval ++ vb).toArray).run P w := by
     simp only [execOp, ho, resolve, hv, Deferred.ofValue, Sem.run_bind, Sem.run_pure, Result.andThen_ok, invoke]
     congr 2
     simp
    unfold Oper.wp
    rcases hc with ⟨h3, h4⟩ | ⟨v, w', h3, r, σ', h4, h5⟩
    ·rw [hcall, h3]
     exact h4.mono fun e w' ⟨v, he, r, σ', hQ, hP⟩ => by subst he; exact hK _ _ _ _ hQ hP
    ·rw [hcall, h3]
     exact hK _ _ _ _ h4 h5
   | _ => exact hq.elim
theorem J3 {h : Heap} {Γ : Nat → Option Ctr} {ρ : Operand → AV} {op : Op} {Q : Res → Prop} (hq : (opX P Γ ρ h op).holds Q) : ∀ c, op ≠ .defer c := by
 rintro c rfl
 exact hq.elim
end
def FM : Option Nat → Fence
 | none => Fence.wide
 | some l => Fence.wide.inRound l
theorem YA (M : Option Nat) (f : Nat) : (FM M).fn f := by cases M <;> trivial
theorem XL (M : Option Nat) : (FM M).depth = none := by cases M <;> rfl
theorem ZR (P : Program) (M : Option Nat) : Machine.fenced P (FM M) = Machine.fenced P Fence.wide := by cases M <;> rfl
theorem zac {P : Program} {M : Option Nat} {n : Nat} {f : FuncId} {args : Array Value} {w : World} {R : Ending → World → Prop} (h : Calls P f args w R) : CallsIn (FM M) n P f args w R := by
 refine ⟨YA M f, fun cs _ => ?_⟩
 obtain ⟨e, w', fr, r, s, x⟩ := h cs
 exact ⟨e, w', fr, r, by rw [ZR]; exact comesIn_wide.2 s, x⟩
theorem Zk {P : Program} {M : Option Nat} {n : Nat} {o : Oper} {a : Act} {w : World} {K : Act → World → Prop} {Qe : Exit → Act → World → Prop} (hd : ∀ c, o.op ≠ .defer c) (h : o.wp P a w K Qe) : o.wpIn (FM M) n P a w K Qe := by
 refine ⟨fun f _ => YA M f, ?_⟩
 rw [Oper.semAt_eq _ _ _ hd]
 unfold Oper.wp at h
 have hdep : (FM M).depth.isSome = true → 1 ≤ n := by rw [XL]; simp
 cases hr : (execOp a.eval o).run P w with
 | ok x w' =>
  rw [hr] at h
  cases x <;> first
   | exact h
   | exact ⟨hdep, zac h⟩
   | exact ⟨hdep, fun c cs _ => by
     obtain ⟨v, w'', r, s⟩ := h c cs
     exact ⟨v, w'', r, by rw [ZR]; exact stepsIn_wide.2 s⟩⟩
   | exact h.elim
 | halt x w' =>
  rw [hr] at h
  cases x <;> first
   | exact h
   | exact h.elim
end Go.Sx
end

/- Regions, code, loops, functions. -/
section
namespace Go.Sx
variable [Stat]
open Go.RowKit (Below)
def TRep (own : Nat → Prop) (w : World) (σ : List SE) (tmps : Array Value) : AV → Value → Prop
 | .opt t want x, v => (tmps.getD t undef = .bool want ∧ Rep own w x σ v) ∨ (tmps.getD t undef ≠ .bool want ∧ v = undef)
 | a, v => Rep own w a σ v
def wR (pin : Nat) (w : World) (σ : List SE) (w' : World) (σ' : List SE) : Prop :=
 ∀ (i : Nat) (e : SE), i < pin → σ[i]? = some e → σ'[i]? = some e ∧ ∀ ad, e.ad = some ad → ∀ cs el, w.heap[ad.block]? = some (.cells cs el (0, 0)) →
  ∃ cs' el', w'.heap[ad.block]? = some (.cells cs' el' (0, 0)) ∧ cs'.size = cs.size
structure Stp (O : Nat → Prop) (pin : Nat) (w : World) (σ : List SE) (w' : World) (σ' : List SE) : Prop where
 ext : Ext (Own O σ) w (Own O σ') w'
 kD : ∀ b, O b → b < w.heap.size → w'.heap[b]? = w.heap[b]?
 hold : wR pin w σ w' σ'
theorem Stp.refl (O : Nat → Prop) (pin : Nat) (w : World) (σ : List SE) : Stp O pin w σ w σ := ⟨Ext.refl _ _, fun _ _ _ => rfl, fun _ _ _ h => ⟨h, fun _ _ cs el h => ⟨cs, el, h, rfl⟩⟩⟩
theorem Stp.trans {O : Nat → Prop} {pin : Nat} {w1 w2 w3 : World} {σ1 σ2 σ3 : List SE} (h : Stp O pin w1 σ1 w2 σ2) (k : Stp O pin w2 σ2 w3 σ3) : Stp O pin w1 σ1 w3 σ3 :=
 ⟨h.ext.trans k.ext, fun b hb hlt => (k.kD b hb (Nat.lt_of_lt_of_le hlt h.ext.size)).trans (h.kD b hb hlt), fun i e hi he => by
  obtain ⟨h1, h2⟩ := h.hold i e hi he
  obtain ⟨h3, h4⟩ := k.hold i e hi h1
  refine ⟨h3, fun ad had cs el hcs => ?_⟩
  obtain ⟨cs2, el2, h5, h6⟩ := h2 ad had cs el hcs
  obtain ⟨cs3, el3, h7, h8⟩ := h4 ad had cs2 el2 h5
  exact ⟨cs3, el3, h7, h8.trans h6⟩⟩
theorem wR.of {K : List Nat} {pin : Nat} {w w' : World} {σ σ' : List SE} (h : Hold K w σ w' σ') (hk : ∀ i ∈ K, pin ≤ i) : wR pin w σ w' σ' :=
 fun i e hi he => h i e he fun hm => by have := hk i hm; omega
def Marks (w0 : World) (own : Nat → Prop) (w : World) (ds : List Deferred) : Prop :=
 ds.Nodup ∧ ∀ d ∈ ds, ∃ D, d = { target := .collected D, args := #[] } ∧ w0.heap.size ≤ D ∧ ¬ own D ∧ w.heap[D]? = some (.deferred (some []))
theorem Marks.nil (w0 : World) (own : Nat → Prop) (w : World) : Marks w0 own w [] := ⟨List.nodup_nil, fun d hd => by cases hd⟩
theorem Marks.ext {w0 w w' : World} {own own' : Nat → Prop} {ds : List Deferred} (h : Marks w0 own w ds) (hx : Ext own w own' w') : Marks w0 own' w' ds :=
 ⟨h.1, fun d hd => by
  obtain ⟨D, h1, h2, h3, h4⟩ := h.2 d hd
  have hlt := (Array.getElem?_eq_some_iff.1 h4).1
  exact ⟨D, h1, h2, hx.yo hlt h3, by rw [hx.keep D hlt h3]; exact h4⟩⟩
structure Mod (O : Nat → Prop) (pin : Nat) (w0 : World) (σ0 : List SE) (w : World) (σ : List SE) (st : St) (a : Act) : Prop where
 good : Good O w σ
 hp : HRep (Own O σ) w σ st.heap
 size : a.tmps.size = st.tmps.length
 tm : ∀ t, TRep (Own O σ) w σ a.tmps (st.tmps.getD t .undef) (a.tmps.getD t undef)
 df : Marks w0 (Own O σ) w a.defers
 since : Stp O pin w0 σ0 w σ
 lim : w9 (Own O σ0) w0
section
variable {O : Nat → Prop} {pin : Nat} {w0 : World} {σ0 : List SE} {w : World} {σ : List SE} {P : Program} {st : St} {a : Act}
theorem TRep.rep {own : Nat → Prop} {tmps : Array Value} {x : AV} {v : Value} (h : TRep own w σ tmps x v) : Rep own w (see [] x) σ v := by
 cases x <;> simp only [TRep, see] at h ⊢ <;> first | exact h | simp [Rep]
theorem KZ {own : Nat → Prop} {tmps : Array Value} {K : List (Nat × Bool)} (hK : ∀ p ∈ K, tmps.getD p.1 undef = .bool p.2) {x : AV} {v : Value} (h : TRep own w σ tmps x v) : Rep own w (see K x) σ v := by
 cases x with
 | opt t want x =>
  simp only [TRep, see] at h ⊢
  split
  ·rename_i hc
   have := hK (t, want) (by simpa using hc)
   rcases h with h | h
   ·exact h.2
   ·exact absurd this h.1
  ·simp [Rep]
 | _ => simpa only [TRep, see] using h
theorem vz (hm : Mod O pin w0 σ0 w σ st a) {K : List (Nat × Bool)} (hK : ∀ p ∈ K, a.tmps.getD p.1 undef = .bool p.2) (x : Operand) : Rep (Own O σ) w (zE st K x) σ (a.eval x) := by
 cases x with
 | tmp t => exact KZ hK (hm.tm t)
 | const v => exact wX v
 | global g =>
  simp only [zE, Act.eval]
  cases hz : Stat.z g with
  | none => simp [Rep]
  | some a =>
   obtain ⟨h1, c, h2, h3, _⟩ := hm.good.stat.at_ g a hz
   simp only [Rep]
   exact ⟨⟨g, 0, none⟩, rfl, rfl, fun o ho => ⟨h1, c, (by
    have : o = 0 := by omega
    subst this; exact h2), h3⟩⟩
 | func f => simp only [zE, Act.eval, Rep]; exact ⟨[], [], rfl, by simp [RepL], by simp [RepL]⟩
theorem Z9 {own own' : Nat → Prop} {w' : World} {σ' : List SE} {K : List Nat} {tmps tmps' : Array Value} (hx : Ext own w own' w') (hh : Hold K w σ w' σ') {x : AV} {v : Value} (h : TRep own w σ tmps x v)
  (ht : ∀ t want y, x = .opt t want y → tmps'.getD t undef = tmps.getD t undef) : TRep own' w' σ' tmps' (z6 K x) v := by
 cases K with
 | nil =>
  simp only [z6]
  cases x with
  | opt t want y =>
   simp only [TRep] at h ⊢
   rw [ht t want y rfl]
   rcases h with ⟨h1, h2⟩ | h
   ·exact .inl ⟨h1, q6 hx hh y v (jG y) h2⟩
   ·exact .inr h
  | _ => simp only [TRep] at h ⊢; exact q6 hx hh _ v (jG _) h
 | cons i k =>
  have hno : ∀ t want y, z6 (i :: k) x ≠ .opt t want y := by
   have h1 : ∀ (L : List Nat) (z : AV), (∀ t want y, z ≠ .opt t want y) → ∀ t want y, z6 L z ≠ .opt t want y := by
    intro L
    induction L with
    | nil => intro z hz; exact hz
    | cons j L ih =>
     intro z hz
     apply ih
     intro t want y
     cases z <;> simp only [zY, jd] <;> (try (intro h; cases h; done)) <;> (try (split <;> intro h <;> cases h)) <;> (try exact hz t want y)
   exact h1 k (zY i x) (by
    intro t want y
    cases x <;> simp only [zY, jd] <;> (try (intro h; cases h; done)) <;> (try (split <;> intro h <;> cases h)))
  have hr : Rep own' w' (z6 (i :: k) x) σ' v := by
   have hx' : Rep own w (z6 (i :: k) x) σ v := by
    cases x with
    | opt t want y =>
     have : Rep own w (.opt t want y) σ v := by simp [Rep]
     exact jV this
    | _ => exact jV (by simpa only [TRep] using h)
   exact q6 hx hh _ v (kL _ _) hx'
  generalize z6 (i :: k) x = z at hno hr
  cases z with
  | opt t want y => exact absurd rfl (hno t want y)
  | _ => simpa only [TRep] using hr
theorem getD_map {f : AV → AV} (hf : f .undef = .undef) (l : List AV) (t : Nat) : (l.map f).getD t .undef = f (l.getD t .undef) := by
 simp only [List.getD, List.getElem?_map]
 cases l[t]? <;> simp [hf]
theorem j2 : ∀ K : List Nat, z6 K .undef = .undef
 | [] => rfl
 | i :: k => by simp only [z6, zY, jd]; exact j2 k
theorem YF {own : Nat → Prop} {d : Nat} {tmps tmps' : Array Value} {x : AV} {v : Value} (h : TRep own w σ tmps x v) (ht : ∀ t, t ≠ d → tmps'.getD t undef = tmps.getD t undef) : TRep own w σ tmps' (zO d x) v := by
 cases x with
 | opt t want y =>
  simp only [zO]
  split
  ·simp [TRep, Rep]
  ·rename_i hne
   simp only [TRep] at h ⊢
   rw [ht t hne]; exact h
 | _ => simpa only [zO, TRep] using h
theorem vk (hm : Mod O pin w0 σ0 w σ st a) {r : Res} {v : Value} {w' : World} {σ' : List SE} (hp : Post O w σ st.heap r v w' σ') (hpin : ∀ i ∈ r.kill, pin ≤ i) (dst : Option Nat) {x : AV}
  (hx : ∀ d, dst = some d → TRep (Own O σ') w' σ' (a.put dst v).tmps x v) : Mod O pin w0 σ0 w' σ' (putX st dst ⟨x, r.eff, r.kill⟩) (a.put dst v) := by
 have htk : ∀ t, TRep (Own O σ') w' σ' a.tmps ((wQ r.kill st.tmps).getD t .undef) (a.tmps.getD t undef) := fun t => by
  rw [jv, getD_map (j2 _)]
  exact Z9 hp.ext hp.hold (hm.tm t) (fun _ _ _ _ => rfl)
 cases dst with
 | none =>
  exact ⟨hp.good, hp.hp, by simp [putX, Act.put, jv, hm.size], htk, hm.df.ext hp.ext, hm.since.trans ⟨hp.ext, hp.kD, wR.of hp.hold hpin⟩, hm.lim⟩
 | some d =>
  have hsz : (a.put (some d) v).tmps.size = a.tmps.size := by simp [Act.put]
  refine ⟨hp.good, hp.hp, by simp [putX, jv, hm.size, hsz], fun t => ?_, by simpa [Act.put] using hm.df.ext hp.ext, hm.since.trans ⟨hp.ext, hp.kD, wR.of hp.hold hpin⟩, hm.lim⟩
  have hl : ((wQ r.kill st.tmps).map (zO d)).length = a.tmps.size := by simp [jv, hm.size]
  simp only [putX]
  by_cases htd : t = d
  ·subst htd
   by_cases hlt : t < a.tmps.size
   ·have e1 : (((wQ r.kill st.tmps).map (zO t)).set t x).getD t .undef = x := by
     simp only [List.getD]
     rw [List.getElem?_set_self (by rw [hl]; exact hlt)]; rfl
    have e2 : (a.put (some t) v).tmps.getD t undef = v := by simp [Act.put, hlt]
    rw [e1, e2]
    exact hx t rfl
   ·have e1 : (((wQ r.kill st.tmps).map (zO t)).set t x).getD t .undef = .undef := by
     simp only [List.getD]
     rw [List.getElem?_eq_none (by simp [jv]; rw [← hm.size]; omega)]; rfl
    rw [e1]
    simp [TRep, Rep]
  ·have e1 : (((wQ r.kill st.tmps).map (zO d)).set d x).getD t .undef = zO d ((wQ r.kill st.tmps).getD t .undef) := by
    rw [← getD_map (f := zO d) rfl]
    simp only [List.getD]
    rw [List.getElem?_set_ne (fun h => htd h.symm)]
   have hother : ∀ u, u ≠ d → (a.put (some d) v).tmps.getD u undef = a.tmps.getD u undef := fun u hu => by
    simp only [Act.put, Array.getD_eq_getD_getElem?]
    rw [Array.getElem?_setIfInBounds_ne (fun h => hu h.symm)]
   rw [e1, hother t htd]
   exact YF (htk t) hother
theorem jE {q : Prop} {u : Nat} {want : Bool} {Q : Res → Prop} (hq : q) : ∀ {t : Tree Res}, (vj q u want t).holds Q → t.holds fun r => ∃ v, r = ⟨v, [], []⟩ ∧ Q ⟨.opt u want v, [], []⟩
 | .leaf ⟨v, [], []⟩, h => ⟨v, rfl, h⟩
 | .leaf ⟨_, _ :: _, _⟩, h => h.elim
 | .leaf ⟨_, [], _ :: _⟩, h => h.elim
 | .ite _ _ _, h => ⟨fun hb => jE hq (h.1 hb), fun hb => jE hq (h.2 hb)⟩
 | .side _ _, h => ⟨h.1 hq, fun _ => jE hq (h.2 h.1)⟩
 | .ex _ _, h => by obtain ⟨x, h1, h2⟩ := h; exact ⟨x, h1 hq, jE hq h2⟩
 | .all _ _, h => by
  obtain ⟨⟨x, h1⟩, h2⟩ := h
  exact ⟨⟨x, h1 hq⟩, fun y hy => jE hq (h2 y fun _ => hy)⟩
 | .fail, h => h.elim
theorem wh {q : Prop} {u : Nat} {want : Bool} {Q : Res → Prop} : ∀ {t : Tree Res}, (vj q u want t).holds Q → ∃ v, Q ⟨.opt u want v, [], []⟩
 | .leaf ⟨v, [], []⟩, h => ⟨v, h⟩
 | .leaf ⟨_, _ :: _, _⟩, h => h.elim
 | .leaf ⟨_, [], _ :: _⟩, h => h.elim
 | .ite true _ _, h => wh (h.1 rfl)
 | .ite false _ _, h => wh (h.2 rfl)
 | .side _ _, h => wh (h.2 h.1)
 | .ex _ _, h => by obtain ⟨x, _, h2⟩ := h; exact wh h2
 | .all _ _, h => by obtain ⟨⟨x, h1⟩, h2⟩ := h; exact wh (h2 x h1)
 | .fail, h => h.elim
theorem jm {q : Prop} {u : Nat} {want : Bool} {Q Q' : Res → Prop} (hQ : ∀ v, Q ⟨.opt u want v, [], []⟩ → Q' ⟨.opt u want v, [], []⟩) : ∀ {t : Tree Res}, (vj q u want t).holds Q → (vj q u want t).holds Q'
 | .leaf ⟨v, [], []⟩, h => hQ v h
 | .leaf ⟨_, _ :: _, _⟩, h => h.elim
 | .leaf ⟨_, [], _ :: _⟩, h => h.elim
 | .ite _ _ _, h => ⟨fun hb => jm hQ (h.1 hb), fun hb => jm hQ (h.2 hb)⟩
 | .side _ _, h => ⟨h.1, fun hp => jm hQ (h.2 hp)⟩
 | .ex _ _, h => by obtain ⟨x, h1, h2⟩ := h; exact ⟨x, h1, jm hQ h2⟩
 | .all _ _, h => ⟨h.1, fun x hx => jm hQ (h.2 x hx)⟩
 | .fail, h => h.elim
theorem vw (hm : Mod O pin w0 σ0 w σ st a) : ∀ (n t : Nat) (want : Bool), a.tmps.getD t undef = .bool want → ∀ p ∈ q9 st.tmps n t want, a.tmps.getD p.1 undef = .bool p.2
 | 0, t, want, h, p, hp => by simp [q9] at hp; subst hp; exact h
 | n + 1, t, want, h, p, hp => by
  simp only [q9, List.mem_cons] at hp
  rcases hp with rfl | hp
  ·exact h
  ·have ht := hm.tm t
   generalize st.tmps.getD t .undef = x at ht hp
   cases x <;> simp only at hp <;> try (cases hp; done)
   rename_i u w' y
   simp only [TRep] at ht
   rcases ht with ⟨h1, _⟩ | ⟨_, h2⟩
   ·exact vw hm n u w' h1 p hp
   ·rw [h2] at h; cases h
theorem vM (hm : Mod O pin w0 σ0 w σ st a) : ∀ (n t : Nat) (want : Bool) (q : Prop), jt st.tmps n t want = some q → a.tmps.getD t undef = .bool want → q
 | 0, t, want, q, hq, h => by simp [jt] at hq
 | n + 1, t, want, q, hq, h => by
  simp only [jt] at hq
  have ht := hm.tm t
  generalize st.tmps.getD t .undef = x at ht hq
  split at hq
  ·rename_i b
   simp only [TRep, Rep] at ht
   rw [ht] at h
   cases hq
   cases h; rfl
  ·rename_i u w' b
   split at hq
   ·rename_i p hp
    cases hq
    simp only [TRep, Rep] at ht
    rcases ht with ⟨h1, h2⟩ | ⟨_, h2⟩
    ·rw [h2] at h
     cases h
     exact ⟨vM hm n u w' p hp h1, rfl⟩
    ·rw [h2] at h; cases h
   ·cases hq
  ·cases hq
theorem xf (hm : Mod O pin w0 σ0 w σ st a) : ∀ (n t : Nat) (want : Bool) (g : Bool), vY st.tmps n t want = some g → (a.tmps.getD t undef = .bool want ↔ g = true)
 | 0, t, want, g, hq => by simp [vY] at hq
 | n + 1, t, want, g, hq => by
  simp only [vY] at hq
  have ht := hm.tm t
  generalize st.tmps.getD t .undef = x at ht hq
  split at hq
  ·rename_i b
   simp only [TRep, Rep] at ht
   rw [ht]
   cases hq
   cases b <;> cases want <;> simp
  ·rename_i u w' b
   split at hq
   ·rename_i g' hg'
    cases hq
    have ih := xf hm n u w' g' hg'
    simp only [TRep, Rep] at ht
    rcases ht with ⟨h1, h2⟩ | ⟨h1, h2⟩
    ·rw [h2, ih.1 h1]
     cases b <;> cases want <;> simp
    ·rw [h2]
     have : g' = false := by
      cases g' with
      | false => rfl
      | true => exact absurd (ih.2 rfl) h1
     rw [this]
     simp [undef]
   ·cases hq
  ·cases hq
theorem WB (hm : Mod O pin w0 σ0 w σ st a) {K : List (Nat × Bool)} (hK : ∀ p ∈ K, a.tmps.getD p.1 undef = .bool p.2) {o : Oper} {t : Nat} {x y : Operand} (ho : o.op = .pick (.tmp t) x y) {Q : AV → Prop}
  (hq : (XD (fun b => match b with | true => zE st ((t, true) :: K) x | false => zE st ((t, false) :: K) y) (zE st K (.tmp t))).holds Q) :
  ∃ r v, (execOp a.eval o).run P w = .ok (.value v) w ∧ Q r ∧ Rep (Own O σ) w r σ v := by
 have hc := vz hm hK (.tmp t)
 generalize zE st K (.tmp t) = c at hc hq
 cases c with
 | bool cb =>
  simp only [Rep] at hc
  have hct : a.tmps.getD t undef = .bool cb := hc
  simp only [XD] at hq
  split at hq
  ·rename_i p q h1 h2
   refine ⟨_, .bool (bif cb then p else q), ?_, hq, by simp [Rep]⟩
   simp only [execOp, ho, hc, asBool, Sem.run_bind, Sem.run_pure, Result.andThen_ok]
   cases cb with
   | true =>
    have := vz hm (K := (t, true) :: K) (fun z hz => by rcases List.mem_cons.1 hz with rfl | hz; exact hct; exact hK z hz) x
    rw [h1] at this
    simp only [Rep] at this
    simp [this]
   | false =>
    have := vz hm (K := (t, false) :: K) (fun z hz => by rcases List.mem_cons.1 hz with rfl | hz; exact hct; exact hK z hz) y
    rw [h2] at this
    simp only [Rep] at this
    simp [this]
  ·exact hq.elim
 | _ => exact hq.elim
end
end Go.Sx
end

/- One operation of a region; regions whose order is open. -/
section
namespace Go.Sx
variable [Stat]
open Go.RowKit (Below)
section
variable {O : Nat → Prop} {pin : Nat} {w0 : World} {σ0 : List SE} {w : World} {σ : List SE} {P : Program} {st : St} {a : Act} {Γ : Nat → Option Ctr}
theorem y7 {ops : Array Oper} {tmps : Array Value} {j t : Nat} {want : Bool} (h : (ops[j]?).bind (·.dst) = some t) : (yielded ops tmps j == some want) = true ↔ tmps.getD t undef = .bool want := by
 unfold yielded
 rw [h]
 simp only [Option.bind_some, Array.getD_eq_getD_getElem?]
 cases ht : tmps[t]? with
 | none => simp [undef]
 | some v => cases v <;> simp
theorem ZX {α : Type} {r : Res} {t : Tree α} {Q : α → Prop} (h : (pinX pin r t).holds Q) : (∀ i ∈ r.kill, pin ≤ i) ∧ t.holds Q := by
 unfold pinX at h
 split at h
 ·rename_i hk; rw [hk]; exact ⟨by simp, h⟩
 ·split at h
  ·rename_i hall; exact ⟨fun i hi => by simpa using List.all_eq_true.1 hall i hi, h⟩
  ·exact h.elim
theorem yh (hΓ : ∀ g c, Γ g = some c → zb P g c) (hm : Mod O pin w0 σ0 w σ st a) {K : List (Nat × Bool)} (hK : ∀ p ∈ K, a.tmps.getD p.1 undef = .bool p.2) {o : Oper} {Q : Res → Prop} (hq : (opV P Γ st K o.op).holds Q)
  {Kc : Act → World → Prop} {Qe : Exit → Act → World → Prop} (hKc : ∀ r v w' σ', Q r → Post O w σ st.heap r v w' σ' → Kc (a.put o.dst v) w') : o.wp P a w Kc Qe := by
 unfold opV at hq
 split at hq
 ·rename_i c x y hop
  rw [Tree.zi] at hq
  unfold UY at hq
  split at hq
  ·rename_i t
   obtain ⟨r, v, h1, h2, h3⟩ := WB (P := P) hm hK hop hq
   unfold Oper.wp
   rw [h1]
   exact hKc ⟨r, [], []⟩ v w σ h2 (Post.still hm.good hm.hp h3)
  ·exact hq.elim
 ·exact Yr hΓ hm.good hm.hp (vz hm hK) hq hKc
theorem Q4 (hΓ : ∀ g c, Γ g = some c → zb P g c) (hm : Mod O pin w0 σ0 w σ st a) {ops : Array Oper} {o : Oper} {Q : Res → Prop} (hq : (qI P Γ ops st o).holds Q) {K : Act → World → Prop} {Qe : Exit → Act → World → Prop}
  (hK : ∀ r w' σ' v, Q r → ((∀ i ∈ r.kill, pin ≤ i) → Mod O pin w0 σ0 w' σ' (putX st o.dst r) (a.put o.dst v)) → K (a.put o.dst v) w') :
  if Region.wanted o (yielded ops a.tmps) then o.wp P a w K Qe else K (a.put o.dst undef) w := by
 unfold qI at hq
 split at hq
 ·rename_i hgd
  rw [if_pos (by simp [Region.wanted, hgd])]
  rw [Tree.zi] at hq
  refine yh hΓ hm (by simp) hq fun r v w' σ' hQ hP => hK _ w' σ' v hQ fun hpin => vk hm hP hpin o.dst (fun d hd => ?_)
  have := hP.rep
  cases hr : r.val with
  | opt t want y => simp [see, TRep, Rep]
  | _ => rw [hr] at this; simpa only [TRep, see] using this
 ·rename_i j want hgd
  split at hq
  ·exact hq.elim
  ·rename_i t ht
   split at hq
   ·unfold Qy at hq
    split at hq
    ·rename_i g d hgb hdst
     split at hq
     ·rename_i hdt
      have hw : Region.wanted o (yielded ops a.tmps) = true ↔ a.tmps.getD t undef = .bool want := by
       simp only [Region.wanted, hgd]
       exact y7 ht
      have hput : ∀ u, (a.put (some d) u).tmps.getD t undef = a.tmps.getD t undef := fun u => by
       simp only [Act.put, Array.getD_eq_getD_getElem?]
       rw [Array.getElem?_setIfInBounds_ne hdt]
      have hg := xf hm 4 t want g hgb
      by_cases hb : a.tmps.getD t undef = .bool want
      ·rw [if_pos (hw.2 hb)]
       have hKs := vw hm 4 t want hb
       have h1 := hq.1 (hg.1 hb)
       rw [Tree.zi] at h1
       refine yh hΓ hm hKs h1 fun r v w' σ' hQ hP => hK _ w' σ' v hQ fun hpin => vk hm hP hpin o.dst (fun d hd => ?_)
       have := hP.rep
       cases hr : r.val with
       | opt t want y => simp [see, TRep, Rep]
       | _ => rw [hr] at this; simpa only [TRep, see] using this
      ·rw [if_neg (fun h => hb (hw.1 h))]
       have hgf : g = false := by
        cases g with
        | false => rfl
        | true => exact absurd (hg.2 rfl) hb
       have hQ := hq.2 hgf
       refine hK _ w σ _ hQ (fun hpin => ?_)
       rw [hdst]
       refine vk hm (r := ⟨.undef, [], []⟩) (v := undef) (Post.still hm.good hm.hp (by simp [Rep])) (by simp) (some d) (x := .opt t want (UG P o.type)) (fun d' hd' => ?_)
       cases hd'
       simp only [TRep]
       exact .inr ⟨by rw [hput]; exact hb, trivial⟩
     ·exact hq.elim
    ·exact hq.elim
   split at hq
   ·rename_i q d hgp hdst
    split at hq
    ·rename_i hdt
     have hw : Region.wanted o (yielded ops a.tmps) = true ↔ a.tmps.getD t undef = .bool want := by
      simp only [Region.wanted, hgd]
      exact y7 ht
     have hput : ∀ u, (a.put (some d) u).tmps.getD t undef = a.tmps.getD t undef := fun u => by
      simp only [Act.put, Array.getD_eq_getD_getElem?]
      rw [Array.getElem?_setIfInBounds_ne hdt]
     by_cases hb : a.tmps.getD t undef = .bool want
     ·rw [if_pos (hw.2 hb)]
      have hKs := vw hm 4 t want hb
      have htr := jE (vM hm 4 t want q hgp hb) hq
      refine yh hΓ hm hKs htr (fun r u w' σ' hr hP => ?_)
      obtain ⟨v, rfl, hQ⟩ := hr
      refine hK _ w' σ' _ hQ (fun hpin => ?_)
      rw [hdst]
      refine vk hm hP (by simp) (some d) (x := .opt t want v) (fun d' hd' => ?_)
      cases hd'
      simp only [TRep]
      exact .inl ⟨by rw [hput]; exact hb, hP.rep⟩
     ·rw [if_neg (fun h => hb (hw.1 h))]
      obtain ⟨v, hQ⟩ := wh hq
      refine hK _ w σ _ hQ (fun hpin => ?_)
      rw [hdst]
      refine vk hm (r := ⟨.undef, [], []⟩) (v := undef) (Post.still hm.good hm.hp (by simp [Rep])) (by simp) (some d) (x := .opt t want v) (fun d' hd' => ?_)
      cases hd'
      simp only [TRep]
      exact .inr ⟨by rw [hput]; exact hb, trivial⟩
    ·exact hq.elim
   ·exact hq.elim
theorem Wh {K : List (Nat × Bool)} {op : Op} {Q : Res → Prop} (hq : (opV P Γ st K op).holds Q) : ∀ c, op ≠ .defer c := by
 unfold opV at hq
 split at hq
 ·intro c h; cases h
 ·exact J3 hq
theorem X9 {K : List (Nat × Bool)} {c : Call} : opV P Γ st K (.defer c) = .fail := rfl
theorem Zu {ops : Array Oper} {o : Oper} {Q : Res → Prop} (hq : (qI P Γ ops st o).holds Q) : ∀ c, o.op ≠ .defer c := by
 unfold qI at hq
 split at hq
 ·rw [Tree.zi] at hq
  exact Wh hq
 ·split at hq
  ·exact hq.elim
  ·split at hq
   ·rename_i heff
    intro c hc
    rw [hc] at heff
    cases heff
   ·split at hq
    ·split at hq
     ·intro c hc
      rw [hc, X9] at hq
      exact hq.elim
     ·exact hq.elim
    ·exact hq.elim
theorem kb {M : Option Nat} (hΓ : ∀ g c, Γ g = some c → zb P g c) (hm : Mod O pin w0 σ0 w σ st a) {ops : Array Oper} {o : Oper} {Q : Res → Prop} (hq : (qI P Γ ops st o).holds Q) {K : Act → World → Prop} {Qe : Exit → Act → World → Prop}
  (hK : ∀ r w' σ' v, Q r → ((∀ i ∈ r.kill, pin ≤ i) → Mod O pin w0 σ0 w' σ' (putX st o.dst r) (a.put o.dst v)) → K (a.put o.dst v) w') :
  if Region.wanted o (yielded ops a.tmps) then o.wpIn (FM M) 0 P a w K Qe else (∀ f, o.about P w a.eval = some f → (FM M).fn f) ∧ K (a.put o.dst undef) w := by
 have h := Q4 hΓ hm hq hK (Qe := Qe)
 split
 ·rename_i hw; rw [if_pos hw] at h; exact Zk (Zu hq) h
 ·rename_i hw; rw [if_neg hw] at h; exact ⟨fun f _ => YA M f, h⟩
theorem WV {M : Option Nat} (hΓ : ∀ g c, Γ g = some c → zb P g c) (hm : Mod O pin w0 σ0 w σ st a) {ops : Array Oper} {o : Oper} {Q : St → Prop} (hq : (Ys P Γ pin ops st o).holds Q) {K : Act → World → Prop} {Qe : Exit → Act → World → Prop}
  (hK : ∀ st' w' σ' a', Q st' → Mod O pin w0 σ0 w' σ' st' a' → K a' w') :
  if Region.wanted o (yielded ops a.tmps) then o.wpIn (FM M) 0 P a w K Qe else (∀ f, o.about P w a.eval = some f → (FM M).fn f) ∧ K (a.put o.dst undef) w := by
 unfold Ys at hq
 rw [Tree.zi] at hq
 refine kb hΓ hm hq fun r w' σ' v hQ hM => ?_
 obtain ⟨h1, h2⟩ := ZX hQ
 exact hK _ w' σ' _ h2 (hM h1)
theorem Zw {ρ ρ' : Operand → AV} {parts : Array (Nat × Operand)} (h : ∀ p ∈ parts, ρ p.2 = ρ' p.2) : (parts.toList.map fun p => (p.1, ρ p.2)) = parts.toList.map fun p => (p.1, ρ' p.2) :=
 List.map_congr_left fun p hp => by rw [h p (by simpa using hp)]
theorem vu {ρ ρ' : Operand → AV} {l : Array Operand} (h : ∀ x ∈ l, ρ x = ρ' x) : l.toList.map ρ = l.toList.map ρ' := List.map_congr_left fun x hx => h x (by simpa using hx)
theorem uN {ρ ρ' : Operand → AV} {h : Heap} {op : Op} (he : ∀ x ∈ op.operands, ρ x = ρ' x) : valX P ρ h op = valX P ρ' h op := by
 cases op with
 | call c =>
  obtain ⟨callee, args, ats⟩ := c
  have ha : ∀ x ∈ args, ρ x = ρ' x := fun x hx => he x (by simp [Op.operands, Call.operands, hx])
  cases callee with
  | builtin b =>
   cases b <;> simp only [valX]
   case len =>
    obtain ⟨args⟩ := args
    obtain ⟨ats⟩ := ats
    match ats, args with
    | [t], [x] => simp only [ha x (by simp)]
    | [], _ => rfl
    | _ :: _ :: _, _ => rfl
    | [_], [] => rfl
    | [_], _ :: _ :: _ => rfl
   case max => rw [vu ha]
   case min => rw [vu ha]
  | _ => rfl
 | build t ps =>
  simp only [valX]
  rw [Zw fun p hp => he p.2 (by simp only [Op.operands, List.mem_toArray, List.mem_map]; exact ⟨p, by simpa using hp, rfl⟩)]
 | makeFunc f first cap =>
  cases f <;> simp only [valX]
  rw [vu fun x hx => he x (by simp [Op.operands, hx]), vu fun x hx => he x (by simp [Op.operands, hx])]
 | slice t x l hi m =>
  cases m <;> simp only [valX]
  have hx := he x (by simp [Op.operands])
  rw [hx]
  cases l <;> cases hi <;> simp only [Option.map_none, Option.map_some]
  ·rw [he _ (by simp [Op.operands])]
  ·rw [he _ (by simp [Op.operands])]
  ·rename_i l' h'
   rw [he l' (by simp [Op.operands]), he h' (by simp [Op.operands])]
 | move x => simp only [valX, he x (by simp [Op.operands])]
 | assign x => simp only [valX, he x (by simp [Op.operands])]
 | load t x => simp only [valX, he x (by simp [Op.operands])]
 | nilCheck x => simp only [valX, he x (by simp [Op.operands])]
 | unOp _ _ x => simp only [valX, he x (by simp [Op.operands])]
 | convert _ _ x => simp only [valX, he x (by simp [Op.operands])]
 | fieldAddr _ x _ => simp only [valX, he x (by simp [Op.operands])]
 | field _ x _ => simp only [valX, he x (by simp [Op.operands])]
 | extract x _ => simp only [valX, he x (by simp [Op.operands])]
 | binOp _ _ x y _ => simp only [valX, he x (by simp [Op.operands]), he y (by simp [Op.operands])]
 | indexAddr _ x y => simp only [valX, he x (by simp [Op.operands]), he y (by simp [Op.operands])]
 | index _ x y => simp only [valX, he x (by simp [Op.operands]), he y (by simp [Op.operands])]
 | lookup _ x y _ => simp only [valX, he x (by simp [Op.operands]), he y (by simp [Op.operands])]
 | _ => rfl
theorem Xu {ρ ρ' : Operand → AV} {h : Heap} {op : Op} (he : ∀ x ∈ op.operands, ρ x = ρ' x) : opX P Γ ρ h op = opX P Γ ρ' h op := by
 cases op with
 | alloc t => rfl
 | box t x => simp only [opX, he x (by simp [Op.operands])]
 | buildSlice t n ps =>
  simp only [opX]
  rw [Zw fun p hp => he p.2 (by simp only [Op.operands, List.mem_toArray, List.mem_map]; exact ⟨p, by simpa using hp, rfl⟩)]
 | store t x y => simp only [opX, he x (by simp [Op.operands]), he y (by simp [Op.operands])]
 | makeSlice t x y => simp only [opX, he x (by simp [Op.operands]), he y (by simp [Op.operands])]
 | call c =>
  have hv := uN (P := P) (h := h) he
  obtain ⟨callee, args, ats⟩ := c
  have ha : ∀ x ∈ args, ρ x = ρ' x := fun x hx => he x (by simp [Op.operands, Call.operands, hx])
  cases callee with
  | builtin b =>
   by_cases hb : b = .append
   ·subst hb
    obtain ⟨args⟩ := args
    obtain ⟨ats⟩ := ats
    simp only [opX]
    match ats, args with
    | [t, tx], [x, y] => simp only [ha x (by simp), ha y (by simp)]
    | [], _ => rfl
    | [_], _ => rfl
    | _ :: _ :: _ :: _, _ => rfl
    | [_, _], [] => rfl
    | [_, _], [_] => rfl
    | [_, _], _ :: _ :: _ :: _ => rfl
   ·cases b <;> first | exact absurd rfl hb | (simp only [opX]; rw [hv])
  | value f =>
   simp only [opX]
   rw [he f (by simp [Op.operands, Call.operands]), vu ha]
  | invoke _ _ => rfl
 | _ => simp only [opX]; rw [uN he]
theorem Jw {ρ : Operand → AV} {h h' : Heap} {op : Op} {ls : List Nat} (hq : zX ρ op = some ls) (hl : ∀ i ∈ ls, h'[i]? = h[i]?) : opX P Γ ρ h' op = opX P Γ ρ h op := by
 cases op with
 | load t x =>
  simp only [zX] at hq
  simp only [opX, valX]
  generalize ρ x = y at hq
  cases y with
  | ptr i off => simp only [Option.some.injEq] at hq; subst hq; simp only [y5, hl i (by simp)]
  | eptr i sz idx off => simp only [Option.some.injEq] at hq; subst hq; simp only [y5, hl i (by simp)]
  | iptr m g => rfl
  | _ => simp at hq
 | convert s t x =>
  simp only [zX] at hq
  simp only [opX, valX]
  generalize ρ x = y at hq
  cases y with
  | int k n => rfl
  | str b => rfl
  | _ => simp at hq
 | call c =>
  simp only [zX] at hq
  obtain ⟨callee, args, ats⟩ := c
  cases callee with
  | builtin b => cases b <;> simp at hq <;> rfl
  | _ => simp at hq
 | makeFunc f _ _ => cases f <;> rfl
 | slice _ _ _ _ m => cases m <;> rfl
 | _ => first | rfl | (simp [zX] at hq; done)
def mask (D : List Nat) (st : St) : St := ⟨st.tmps.zipIdx.map fun p => if D.contains p.2 then .undef else p.1, st.heap⟩
theorem qF (D : List Nat) (st : St) (t : Nat) : (mask D st).tmps.getD t .undef = if t ∈ D then .undef else st.tmps.getD t .undef := by
 simp only [mask, List.getD, List.getElem?_map, List.getElem?_zipIdx]
 cases st.tmps[t]? <;> simp
theorem jg (D : List Nat) (st : St) : (mask D st).tmps.length = st.tmps.length := by simp [mask]
variable {st2 : St}
theorem wH : ∀ {n t : Nat} {want : Bool}, (∀ u ∈ ja st.tmps n t, st2.tmps.getD u .undef = st.tmps.getD u .undef) → q9 st2.tmps n t want = q9 st.tmps n t want
 | 0, t, want, h => rfl
 | n + 1, t, want, h => by
  simp only [q9, ja] at h ⊢
  rw [h t (by simp)]
  generalize st.tmps.getD t .undef = x at h
  cases x <;> try rfl
  simp only at h ⊢
  rw [wH fun u hu => h u (by simp [hu])]
theorem vN : ∀ {n t : Nat} {want : Bool}, (∀ u ∈ ja st.tmps n t, st2.tmps.getD u .undef = st.tmps.getD u .undef) → jt st2.tmps n t want = jt st.tmps n t want
 | 0, t, want, h => rfl
 | n + 1, t, want, h => by
  simp only [jt, ja] at h ⊢
  rw [h t (by simp)]
  generalize st.tmps.getD t .undef = x at h
  cases x <;> try rfl
  rename_i u w' y
  cases y <;> try rfl
  simp only at h ⊢
  rw [vN fun v hv => h v (by simp [hv])]
theorem x9 : ∀ {n t : Nat}, (∀ u ∈ ja st.tmps n t, st2.tmps.getD u .undef = st.tmps.getD u .undef) → ja st2.tmps n t = ja st.tmps n t
 | 0, t, h => rfl
 | n + 1, t, h => by
  simp only [ja] at h ⊢
  rw [h t (by simp)]
  generalize st.tmps.getD t .undef = x at h
  cases x <;> try rfl
  simp only at h ⊢
  rw [x9 fun u hu => h u (by simp [hu])]
theorem ux {ops : Array Oper} {o : Oper} {t : Nat} (h : .tmp t ∈ o.op.operands) (l : List AV) : t ∈ q7 ops l o := by
 simp only [q7, UC, List.mem_append, List.mem_filterMap]
 exact .inl ⟨.tmp t, by simpa using h, rfl⟩
theorem wD {ops : Array Oper} {o : Oper} {j t : Nat} {want : Bool} (hg : o.guard = some (j, want)) (ht : (ops[j]?).bind (·.dst) = some t) {l : List AV} {u : Nat} (hu : u ∈ ja l 4 t) : u ∈ q7 ops l o := by
 simp only [q7, hg, ht, List.mem_append]
 exact .inr hu
theorem vQ {K : List (Nat × Bool)} {x : Operand} (h : ∀ t, x = .tmp t → st2.tmps.getD t .undef = st.tmps.getD t .undef) : zE st2 K x = zE st K x := by
 cases x with
 | tmp t => simp only [zE, h t rfl]
 | _ => rfl
theorem Qf {ops : Array Oper} {o : Oper} {K : List (Nat × Bool)} (ht : ∀ t ∈ q7 ops st.tmps o, st2.tmps.getD t .undef = st.tmps.getD t .undef)
  (hh : st2.heap = st.heap ∨ ∃ ls, zX (zE st K) o.op = some ls ∧ ∀ i ∈ ls, st2.heap[i]? = st.heap[i]?) : opV P Γ st2 K o.op = opV P Γ st K o.op := by
 have hev : ∀ K, ∀ x ∈ o.op.operands, zE st2 K x = zE st K x := fun K x hx => vQ fun t hxt => ht t (ux (hxt ▸ hx) _)
 have hgen : opX P Γ (zE st2 K) st2.heap o.op = opX P Γ (zE st K) st.heap o.op := by
  rw [Xu (hev K)]
  rcases hh with hh | ⟨ls, h1, h2⟩
  ·rw [hh]
  ·exact Jw h1 h2
 unfold opV
 cases hop : o.op with
 | pick c x y =>
  simp only
  congr 1
  have hc : ∀ K, zE st2 K c = zE st K c := fun K => hev K c (by simp [hop, Op.operands])
  have hx : ∀ K, zE st2 K x = zE st K x := fun K => hev K x (by simp [hop, Op.operands])
  have hy : ∀ K, zE st2 K y = zE st K y := fun K => hev K y (by simp [hop, Op.operands])
  simp only [UY, hc, hx, hy]
 | _ => rw [hop] at hgen; exact hgen
theorem vF {ops : Array Oper} {o : Oper} (ht : ∀ t ∈ q7 ops st.tmps o, st2.tmps.getD t .undef = st.tmps.getD t .undef) : vy ops st2 o = vy ops st o := by
 unfold vy
 cases hg : o.guard with
 | none => rfl
 | some p =>
  obtain ⟨j, want⟩ := p
  simp only
  cases hj : (ops[j]?).bind (·.dst) with
  | none => rfl
  | some t => exact wH fun u hu => ht u (wD hg hj hu)
theorem xJ : ∀ {n t : Nat} {want : Bool}, (∀ u ∈ ja st.tmps n t, st2.tmps.getD u .undef = st.tmps.getD u .undef) → vY st2.tmps n t want = vY st.tmps n t want
 | 0, t, want, h => rfl
 | n + 1, t, want, h => by
  simp only [vY, ja] at h ⊢
  rw [h t (by simp)]
  generalize st.tmps.getD t .undef = x at h
  cases x <;> try rfl
  rename_i u w' y
  cases y <;> try rfl
  simp only at h ⊢
  rw [xJ fun v hv => h v (by simp [hv])]
theorem kC {ρ : Operand → AV} {h : Heap} {op : Op} {ls : List Nat} (hq : zX ρ op = some ls) : vK Γ ρ h op = false := by
 cases op with
 | call c =>
  obtain ⟨callee, args, ats⟩ := c
  cases callee with
  | value f => simp [zX] at hq
  | _ => rfl
 | _ => rfl
theorem QW {ρ ρ' : Operand → AV} {h : Heap} {op : Op} (he : ∀ x ∈ op.operands, ρ x = ρ' x) : vK Γ ρ h op = vK Γ ρ' h op := by
 cases op with
 | call c =>
  obtain ⟨callee, args, ats⟩ := c
  have ha : ∀ x ∈ args, ρ x = ρ' x := fun x hx => he x (by simp [Op.operands, Call.operands, hx])
  cases callee with
  | value f =>
   simp only [vK]
   rw [he f (by simp [Op.operands, Call.operands]), vu ha]
  | _ => rfl
 | _ => rfl
theorem Zm {ops : Array Oper} {o : Oper} {K : List (Nat × Bool)} (ht : ∀ t ∈ q7 ops st.tmps o, st2.tmps.getD t .undef = st.tmps.getD t .undef)
  (hh : st2.heap = st.heap ∨ ∃ ls, zX (zE st K) o.op = some ls ∧ ∀ i ∈ ls, st2.heap[i]? = st.heap[i]?) : vK Γ (zE st2 K) st2.heap o.op = vK Γ (zE st K) st.heap o.op := by
 have hev : ∀ x ∈ o.op.operands, zE st2 K x = zE st K x := fun x hx => vQ fun t hxt => ht t (ux (hxt ▸ hx) _)
 rw [QW hev]
 rcases hh with hh | ⟨ls, h1, _⟩
 ·rw [hh]
 ·rw [kC h1, kC h1]
theorem jM {ops : Array Oper} {o : Oper} (ht : ∀ t ∈ q7 ops st.tmps o, st2.tmps.getD t .undef = st.tmps.getD t .undef)
  (hh : st2.heap = st.heap ∨ ∃ ls, zX (zE st (vy ops st o)) o.op = some ls ∧ ∀ i ∈ ls, st2.heap[i]? = st.heap[i]?) : qI P Γ ops st2 o = qI P Γ ops st o := by
 unfold qI
 cases hg : o.guard with
 | none =>
  simp only
  rw [Qf (ops := ops) ht (by simpa [vy, hg] using hh)]
 | some p =>
  obtain ⟨j, want⟩ := p
  simp only
  cases hj : (ops[j]?).bind (·.dst) with
  | none => rfl
  | some t =>
   simp only
   have hc : ∀ u ∈ ja st.tmps 4 t, st2.tmps.getD u .undef = st.tmps.getD u .undef := fun u hu => ht u (wD hg hj hu)
   have hh' : st2.heap = st.heap ∨ ∃ ls, zX (zE st (q9 st.tmps 4 t want)) o.op = some ls ∧ ∀ i ∈ ls, st2.heap[i]? = st.heap[i]? := by simpa [vy, hg, hj] using hh
   simp only [Qy]
   rw [xJ hc, vN hc, wH hc, Zm ht hh', Qf (ops := ops) ht hh']
theorem Vq {ops : Array Oper} {o : Oper} (ht : ∀ t ∈ q7 ops st.tmps o, st2.tmps.getD t .undef = st.tmps.getD t .undef) : q7 ops st2.tmps o = q7 ops st.tmps o := by
 unfold q7
 cases hg : o.guard with
 | none => rfl
 | some p =>
  obtain ⟨j, want⟩ := p
  simp only
  cases hj : (ops[j]?).bind (·.dst) with
  | none => rfl
  | some t => simp only; rw [x9 fun u hu => ht u (wD hg hj hu)]
theorem vR {ops : Array Oper} {o : Oper} (ht : ∀ t ∈ q7 ops st.tmps o, st2.tmps.getD t .undef = st.tmps.getD t .undef) : zG ops st2.tmps o = zG ops st.tmps o := by
 unfold zG
 rw [Vq ht]
 congr 1
 rw [List.flatMap_def, List.flatMap_def, List.map_congr_left fun t h => by rw [ht t h]]
theorem vf {ops : Array Oper} {o : Oper} {K : List (Nat × Bool)} (ht : ∀ t ∈ q7 ops st.tmps o, st2.tmps.getD t .undef = st.tmps.getD t .undef) : zX (zE st2 K) o.op = zX (zE st K) o.op := by
 have hev : ∀ x ∈ o.op.operands, zE st2 K x = zE st K x := fun x hx => vQ fun t hxt => ht t (ux (hxt ▸ hx) _)
 cases hop : o.op with
 | load t x => simp only [zX, hev x (by simp [hop, Op.operands])]
 | convert s t x => simp only [zX, hev x (by simp [hop, Op.operands])]
 | _ => rfl
theorem JG {ops : Array Oper} {o : Oper} {dst : Option Nat} {r : Res} (hd : ∀ d, dst = some d → d ∉ zG ops st.tmps o) (hk : r.kill = []) : ∀ t ∈ q7 ops st.tmps o, (putX st dst r).tmps.getD t .undef = st.tmps.getD t .undef := by
 intro t ht
 cases dst with
 | none => simp [putX, hk, wQ]
 | some d =>
  have hd := hd d rfl
  have htd : t ≠ d := fun e => hd (e ▸ by simp [zG, ht])
  simp only [putX, hk, wQ, List.getD]
  rw [List.getElem?_set_ne (fun e => htd e.symm), List.getElem?_map]
  cases hx : st.tmps[t]? with
  | none => rfl
  | some x =>
   simp only [Option.map_some, Option.getD_some]
   cases x <;> try rfl
   rename_i u w' y
   simp only [zO]
   rw [if_neg]
   rintro rfl
   refine hd ?_
   simp only [zG, List.mem_append, List.mem_flatMap]
   exact .inr ⟨t, ht, by simp [List.getD, hx, YN]⟩
theorem xC : ∀ (eff : List (Nat × Blk)) (h : Heap), h.length ≤ (zm h eff).length
 | [], h => Nat.le_refl _
 | (l, b) :: eff, h => by
  simp only [zm]
  have hlen : h.length ≤ (qa h l b).length := by unfold qa; split <;> simp
  exact Nat.le_trans hlen (xC eff _)
theorem yy : ∀ {eff : List (Nat × Blk)} {h : Heap} {i : Nat}, i < h.length → (∀ p ∈ eff, p.1 ≠ i) → (zm h eff)[i]? = h[i]? ∧ h.length ≤ (zm h eff).length
 | [], h, i, _, _ => ⟨rfl, Nat.le_refl _⟩
 | (l, b) :: eff, h, i, hi, hn => by
  simp only [zm]
  have hne := hn (l, b) (by simp)
  have hlen : h.length ≤ (qa h l b).length := by unfold qa; split <;> simp
  obtain ⟨h1, h2⟩ := yy (eff := eff) (h := qa h l b) (i := i) (by omega) fun p hp => hn p (by simp [hp])
  refine ⟨h1.trans ?_, Nat.le_trans hlen h2⟩
  unfold qa
  split
  ·rw [List.getElem?_set_ne hne]
  ·rw [List.getElem?_append_left hi]
def okL (ops : Array Oper) : List Nat → Prop
 | [] => True
 | i :: L => (∀ o, ops[i]? = some o → ∀ k ∈ jF o, k ∈ L) ∧ i ∉ L ∧ okL ops L
structure Jm (P : Program) (Γ : Nat → Option Ctr) (ops : Array Oper) (st : St) (e : Ent) (o : Oper) : Prop where
 op : ops[e.k]? = some o
 dst : o.dst = some e.d
 val : (qI P Γ ops st o).holds (fun r => r = ⟨e.x, [], []⟩)
 looks : zG ops st.tmps o = e.looks
 self : e.d ∉ e.looks
 quiet : zX (zE st (vy ops st o)) o.op = some e.labs
 lab : ∀ i ∈ e.labs, i < st.heap.length
 slot : e.d < st.tmps.length → st.tmps.getD e.d .undef = e.x
def U7 (ops : Array Oper) (e f : Ent) : Prop := e.d ∉ f.looks ∧ e.d ≠ f.d ∧ ((∀ o, ops[e.k]? = some o → f.k ∈ jx ops o) ∨ f.d ∉ e.looks)
structure Inv (P : Program) (Γ : Nat → Option Ctr) (ops : Array Oper) (L : List Nat) (st : St) (pend : List Ent) (listed : Array Bool) : Prop where
 lis : ∀ k, k < ops.size → (listed.getD k true = false ↔ (k ∉ L ∨ ∃ e ∈ pend, e.k = k))
 out : ∀ k, ¬ k < ops.size → listed.getD k true = true ∧ listed.getD k false = false
 lis2 : ∀ k, k < ops.size → listed.getD k true = listed.getD k false
 ok : okL ops L
 lt : ∀ k ∈ L, k < ops.size
 key : ∀ e ∈ pend, e.k ∈ L
 uniq : ∀ e ∈ pend, ∀ f ∈ pend, e.k = f.k → e = f
 ord : ∀ e ∈ pend, ∀ f ∈ pend, e.k ≠ f.k → U7 ops e f ∨ U7 ops f e
 good : ∀ e ∈ pend, ∃ o, Jm P Γ ops st e o
 Wl : ∀ e ∈ pend, ∀ t want x, st.tmps.getD t .undef = .opt e.d want x → ∃ f ∈ pend, f.d = t
 cl : ∀ k o, listed.getD k false = true → ops[k]? = some o → ∀ j ∈ jF o, listed.getD j false = true
theorem ui {o : Oper} {j : Nat} : j ∈ jF o ↔ ∃ e ∈ o.after, Region.binds .any e = true ∧ e.on = j := by
 simp only [jF, List.mem_filterMap, Array.mem_toList_iff]
 constructor
 ·rintro ⟨e, he, h⟩
  split at h
  ·rename_i hb; cases h; exact ⟨e, he, hb, rfl⟩
  ·cases h
 ·rintro ⟨e, he, hb, rfl⟩
  exact ⟨e, he, by simp [hb]⟩
theorem j9 {ops : Array Oper} {listed : Array Bool} {j : Nat} : j ∈ Region.ready .any ops listed ↔ listed.getD j true = false ∧ ∃ o, ops[j]? = some o ∧ ∀ k ∈ jF o, listed.getD k false = true := by
 rw [mem_ready]
 constructor
 ·rintro ⟨h, o, ho, hall⟩
  refine ⟨h, o, ho, fun k hk => ?_⟩
  obtain ⟨e, he, hb, rfl⟩ := ui.1 hk
  exact hall e he hb
 ·rintro ⟨h, o, ho, hall⟩
  exact ⟨h, o, ho, fun e he hb => hall _ (ui.2 ⟨e, he, hb, rfl⟩)⟩
theorem kM {ops : Array Oper} {L : List Nat} {j : Nat} : j ∈ v8 ops L ↔ j ∉ L ∧ ∃ o, ops[j]? = some o ∧ ∀ k ∈ jF o, k ∈ L := by
 simp only [v8, List.mem_filter, List.mem_range, Wo, Bool.and_eq_true, Bool.not_eq_true', List.contains_eq_mem, decide_eq_false_iff_not]
 constructor
 ·rintro ⟨h1, h2, h3⟩
  cases ho : ops[j]? with
  | none => simp [ho] at h3
  | some o => simp only [ho, List.all_eq_true, decide_eq_true_eq] at h3; exact ⟨h2, o, rfl, h3⟩
 ·rintro ⟨h2, o, ho, h3⟩
  exact ⟨(Array.getElem?_eq_some_iff.1 ho).1, h2, by simp only [ho, List.all_eq_true, decide_eq_true_eq]; exact h3⟩
theorem uA {ops : Array Oper} {T : Nat → Prop} (cl : ∀ k o, T k → ops[k]? = some o → ∀ j ∈ jF o, T j) : ∀ (n : Nat) (todo acc : List Nat), (∀ k ∈ todo, T k) → (∀ k ∈ acc, T k) → ∀ k ∈ ancs ops n todo acc, T k
 | 0, todo, acc, _, ha, k, hk => ha k (by simpa [ancs] using hk)
 | n + 1, [], acc, _, ha, k, hk => ha k (by simpa [ancs] using hk)
 | n + 1, i :: t, acc, ht, ha, k, hk => by
  simp only [ancs] at hk
  split at hk
  ·exact uA cl n t acc (fun j hj => ht j (by simp [hj])) ha k hk
  ·refine uA cl n _ _ ?_ ?_ k hk
   ·intro j hj
    rcases List.mem_append.1 hj with hj | hj
    ·cases ho : ops[i]? with
     | none => simp [ho] at hj
     | some o => simp only [ho] at hj; exact cl i o (ht i (by simp)) ho j hj
    ·exact ht j (by simp [hj])
   ·intro j hj
    rcases List.mem_cons.1 hj with rfl | hj
    ·exact ht j (by simp)
    ·exact ha j hj
theorem Jc {ops : Array Oper} {T : Nat → Prop} (cl : ∀ k o, T k → ops[k]? = some o → ∀ j ∈ jF o, T j) {o : Oper} (h : ∀ k ∈ jF o, T k) : ∀ k ∈ jx ops o, T k :=
 uA cl _ _ _ h (by simp)
section
variable {ops : Array Oper} {L : List Nat} {pend : List Ent} {listed : Array Bool}
theorem Inv.T (I : Inv P Γ ops L st pend listed) (k : Nat) : listed.getD k false = true ↔ k ∈ L ∧ ¬ ∃ e ∈ pend, e.k = k := by
 by_cases hk : k < ops.size
 ·rw [← I.lis2 k hk]
  have := I.lis k hk
  cases hl : listed.getD k true with
  | false =>
   rw [hl] at this
   simp only [true_iff] at this
   simp only [Bool.false_eq_true, false_iff, not_and, Classical.not_not]
   intro h
   rcases this with h2 | h2
   ·exact absurd h h2
   ·exact h2
  | true =>
   rw [hl] at this
   simp only [Bool.true_eq_false, false_iff, not_or, Classical.not_not] at this
   simp [this]
 ·rw [(I.out k hk).2]
  simp only [Bool.false_eq_true, false_iff]
  exact fun h => hk (I.lt k h.1)
theorem Inv.first (I : Inv P Γ ops L st pend listed) (hne : pend ≠ []) : ∃ e ∈ pend, e.k ∈ Region.ready .any ops listed := by
 have key : ∀ L' : List Nat, okL ops L' → (∀ k ∈ L', k ∈ L) → (∃ e ∈ pend, e.k ∈ L') → ∃ e ∈ pend, e.k ∈ L' ∧ ∀ o, ops[e.k]? = some o → ∀ k ∈ jF o, k ∈ L' ∧ ¬ ∃ f ∈ pend, f.k = k := by
  intro L'
  induction L' with
  | nil => rintro _ _ ⟨e, _, h⟩; simp at h
  | cons i L' ih =>
   rintro ⟨h1, h2, h3⟩ hsub ⟨e, he, hk⟩
   by_cases hex : ∃ e ∈ pend, e.k ∈ L'
   ·obtain ⟨f, hf, h4, h5⟩ := ih h3 (fun k hk => hsub k (by simp [hk])) hex
    exact ⟨f, hf, by simp [h4], fun o ho k hk => ⟨by simp [(h5 o ho k hk).1], (h5 o ho k hk).2⟩⟩
   ·rcases List.mem_cons.1 hk with hk | hk
    ·refine ⟨e, he, by simp [hk], fun o ho k hk' => ?_⟩
     have := h1 o (hk ▸ ho) k hk'
     exact ⟨by simp [this], fun ⟨f, hf, hfk⟩ => hex ⟨f, hf, hfk ▸ this⟩⟩
    ·exact absurd ⟨e, he, hk⟩ hex
 obtain ⟨e0, he0⟩ := List.exists_mem_of_ne_nil _ hne
 obtain ⟨e, he, h1, h2⟩ := key L I.ok (fun _ h => h) ⟨e0, he0, I.key e0 he0⟩
 obtain ⟨o, ho⟩ := I.good e he
 refine ⟨e, he, j9.2 ⟨(I.lis e.k (I.lt _ h1)).2 (.inr ⟨e, he, rfl⟩), o, ho.op, fun k hk => ?_⟩⟩
 exact (I.T k).2 (h2 o ho.op k hk)
end
end
end Go.Sx
end
