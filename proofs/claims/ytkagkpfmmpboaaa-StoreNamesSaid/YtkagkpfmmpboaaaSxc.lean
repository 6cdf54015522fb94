/- Part 3 of the proof. -/
import Derived.Tactics
import Derived.Orders
import Derived.KernelRfl
import Derived.Below
import Derived.Laws.Cells
import Derived.ChangeKeysEq
import Derived.Laws.Strings
import Derived.Laws.BytesString
import Derived.Laws.StructEq
import Derived.Laws.AppendOwn
import Derived.Laws.MakeOwn
import Derived.Deep.AppendSrc
set_option linter.unusedVariables false
set_option linter.unusedSimpArgs false
set_option linter.unusedSectionVars false
section
namespace Go.Sx
universe u
inductive AV where
 | undef
 | bool (b:Bool)
 | int (k:IntKind) (n:Int)
 | str (s:List UInt8)
 | nils
 | sl (n sz:Nat) (get:Nat→Nat→AV)
 | osl (i sz off n:Nat)
 | ptr (i off:Nat)
 | nilp
 | eptr (i sz idx off:Nat)
 | iptr (m:Nat) (get:Nat→AV)
 | gptr (g:Nat)
 | agg (cells:List AV)
 | tup (vs:List AV)
 | fn (f:Nat) (first cap:List AV)
 | nilf
 | opt (t:Nat) (want:Bool) (x:AV)
 | mp (k:IntKind) (ag:Bool) (sz:Nat) (ks:List Int) (has:Int→Bool) (get:Int→Nat→AV)
 | omap (i:Nat)
class Stat where
 z:Nat→Option AV
abbrev Sc:=Sum Int (List UInt8)
abbrev SK:=Sum IntKind Bool
inductive Blk where
 | dead
 | box (cells:List AV)
 | arr (n sz:Nat) (get:Nat→Nat→AV)
 | map (ag:Bool) (sh:List SK) (has:List Sc→Bool) (get:List Sc→AV) (pe:Option (List Sc×Int):=none)
 | arrI (k:IntKind) (n:Nat) (f:Nat→Int)
 | arrS (n:Nat) (f:Nat→List UInt8)
inductive Tree(α:Type) where
 | leaf (a:α)
 | ite (b:Bool) (t e:Tree α)
 | side (p:Prop) (t:Tree α)
 | ex {X:Type} (p:X→Prop) (k:X→Tree α)
 | all {X:Type} (p:X→Prop) (k:X→Tree α)
 | fail
namespace Tree
def bind{α β:Type} : Tree α→(α→Tree β)→Tree β
 | .leaf a,f=>f a
 | .ite b t e,f=>.ite b (t.bind f) (e.bind f)
 | .side p t,f=>.side p (t.bind f)
 | .ex p k,f=>.ex p fun n=>(k n).bind f
 | .all p k,f=>.all p fun n=>(k n).bind f
 | .fail,_=>.fail
def holds{α:Type} : Tree α→(α→Prop)→Prop
 | .leaf a,Q=>Q a
 | .ite b t e,Q=>(b=true→t.holds Q)∧(b=false→e.holds Q)
 | .side p t,Q=>p∧(p→t.holds Q)
 | .ex p k,Q=>∃ n,p n∧(k n).holds Q
 | .all p k,Q=>(∃ n,p n)∧∀ n,p n→(k n).holds Q
 | .fail,_=>False
def map{α β:Type}(f:α→β)(t:Tree α):Tree β:=t.bind fun a=>.leaf (f a)
def chain{α:Type} : Tree α→Option (List Prop×α)
 | .leaf a=>some ([],a)
 | .side p t=>match t.chain with
  | some (ps,a)=>some (p::ps,a)
  | none=>none
 | _=>none
end Tree
abbrev Heap:=List Blk
abbrev Spec:=List AV→Heap→Tree (AV×Heap)
structure Ctr where
 fresh:Bool
 spec:Spec
 jS:Bool:=false
 pins:Nat:=0
 sinks:Bool:=false
structure St where
 tmps:List AV
 heap:Heap
def lo:IntKind→Int
 | .i8=> -128 | .i16=> -32768 | .i32=> -2147483648 | .i64=> -9223372036854775808
 | _=>0
def hi:IntKind→Int
 | .i8=>127 | .i16=>32767 | .i32=>2147483647 | .i64=>9223372036854775807
 | .u8=>255 | .u16=>65535 | .u32=>4294967295 | .u64=>18446744073709551615
def inR(k:IntKind)(n:Int):Prop:=lo k≤n∧n≤hi k
def zg(g:Nat→Nat→AV)(l:Nat):Nat→Nat→AV:=fun j o=>g (l+j) o
def eltG(g:Nat→Nat→AV)(i:Nat):Nat→AV:=fun o=>g i o
def atG(g:Nat→AV)(d:Nat):Nat→AV:=fun o=>g (d+o)
def updG(g:Nat→Nat→AV)(i d:Nat)(cs:List AV):Nat→Nat→AV:=fun j o=>if j=i∧d≤o∧o<d+cs.length then cs.getD (o - d) .undef else g j o
def tgI(k:IntKind)(f:Nat→Int):Nat→Nat→AV:=fun j _=>.int k (f j)
def tgS(f:Nat→List UInt8):Nat→Nat→AV:=fun j _=>.str (f j)
def updI(f:Nat→Int)(i:Nat)(v:Int):Nat→Int:=fun j=>if j=i then v else f j
def updS(f:Nat→List UInt8)(i:Nat)(v:List UInt8):Nat→List UInt8:=fun j=>if j=i then v else f j
def appG(n:Nat)(g g':Nat→Nat→AV):Nat→Nat→AV:=fun j o=>if j<n then g j o else g' (j - n) o
def zh(sz:Nat)(cs:List AV):Nat→Nat→AV:=fun j o=>cs.getD (j*sz+o) .undef
def x1(cs:List AV):Nat→Nat→AV:=fun _ o=>cs.getD o .undef
def byteOf:AV→UInt8
 | .int _ n=>UInt8.ofNat n.toNat
 | _=>0
def vS(n:Nat)(g:Nat→Nat→AV):List UInt8:=(List.range n).map fun j=>byteOf (g j 0)
def xH:Value→AV
 | .bool b=>.bool b
 | .int k n=>.int k n
 | .string s=>.str s.data.toList
 | .slice none 0 0=>.nils
 | .pointer none=>.nilp
 | .nilFunc=>.nilf
 | _=>.undef
def kC:Value→AV
 | .agg cs=>.agg (cs.toList.map xH)
 | v=>xH v
def cellsOf:AV→Option (List AV)
 | .agg cs=>some cs
 | .undef=>none
 | .opt _ _ _=>none
 | v=>some [v]
def oneA:AV→Bool
 | .undef=>false
 | .agg _=>false
 | .tup _=>false
 | .opt _ _ _=>false
 | _=>true
def qw(i:Nat):AV→AV
 | .osl j sz off n=>if i=j then .undef else .osl j sz off n
 | .eptr j sz idx off=>if i=j then .undef else .eptr j sz idx off
 | .ptr j off=>if i=j then .undef else .ptr j off
 | .omap j=>if i=j then .undef else .omap j
 | .agg _=>.undef
 | .tup _=>.undef
 | .fn f a b=>match a,b with
  | [],[]=>.fn f [] []
  | _,_=>.undef
 | .opt _ _ _=>.undef
 | x=>x
def zO(i:Nat):AV→AV
 | .agg cs=>.agg (cs.map (qw i))
 | .tup cs=>.tup (cs.map (qw i))
 | .fn f a b=>.fn f (a.map (qw i)) (b.map (qw i))
 | x=>qw i x
def ZC(i:Nat):Blk→Blk
 | .box cs=>.box (cs.map (zO i))
 | b=>b
structure Res where
 val:AV
 eff:List (Nat×Blk):=[]
 kill:List Nat:=[]
def zU(h:Heap)(l:Nat)(b:Blk):Heap:=if l<h.length then h.set l b else h++[b]
def zi(h:Heap):List (Nat×Blk)→Heap
 | []=>h
 | (l,b)::r=>zi (zU h l b) r
def setAt(cs:List AV)(off:Nat)(new:List AV):List AV:=cs.take off++new++cs.drop (off+new.length)
section
variable (P:Program) (Γ:Nat→Option Ctr)
def zeroCells(t:TypeId):Option (List AV):=match P.info? t with
 | some i=>match i.zero with
  | some v=>cellsOf (kC v)
  | none=>none
 | none=>none
def jf(t:TypeId):Option Bool:=match P.underlying t with
 | some (.struct _) | some (.array _ _)=>some true
 | some _=>some false
 | none=>none
def zS(t:TypeId):Option Nat:=(P.info? t).map (·.size)
def jM(agg:Bool)(cs:List AV):Tree AV:=if agg then .leaf (.agg cs) else match cs with
 | [c]=>.leaf c
 | _=>.fail
def yn(h:Heap)(t:TypeId):AV→Tree AV
 | .ptr i off=>match h[i]?,jf P t,zS P t with
  | some (.box cells),some a,some n=>if off+n≤cells.length then jM a ((cells.drop off).take n) else .fail
  | _,_,_=>.fail
 | .eptr i sz idx off=>match h[i]?,jf P t,zS P t with
  | some (.arr _ sz' g),some a,some n=>if sz=sz'∧off+n≤sz then jM a ((List.range n).map fun o=>g idx (off+o)) else .fail
  | some (.arrI k _ f),some false,some 1=>if sz=1∧off=0 then .leaf (.int k (f idx)) else .fail
  | some (.arrS _ f),some false,some 1=>if sz=1∧off=0 then .leaf (.str (f idx)) else .fail
  | some (.box cells),some a,some n=>if idx*sz+off+n≤cells.length then jM a ((cells.drop (idx*sz+off)).take n) else .fail
  | _,_,_=>.fail
 | .iptr m g=>match jf P t,zS P t with
  | some a,some n=>if n≤m then jM a ((List.range n).map g) else .fail
  | _,_=>.fail
 | _=>.fail
def qJ(h:Heap):AV→Option (Nat×Nat×(Nat→Nat→AV))
 | .nils=>some (0,0,fun _ _=>.undef)
 | .sl n sz g=>some (n,sz,g)
 | .osl i sz off n=>match h[i]? with
  | some (.arr _ sz' g)=>if sz=sz' then some (n,sz,zg g off) else none
  | some (.arrI k _ f)=>if sz=1 then some (n,sz,zg (tgI k f) off) else none
  | some (.arrS _ f)=>if sz=1 then some (n,sz,zg (tgS f) off) else none
  | _=>none
 | _=>none
def km(s:TypeId)(f:Nat):Option (Nat×TypeId×Nat):=match P.underlying s with
 | some (.struct fields)=>match fields[f]? with
  | some fld=>match P.info? fld.type with
   | some i=>if i.size=0 then none else some (fld.offset,fld.type,i.size)
   | none=>none
  | none=>none
 | _=>none
def WY(d:Nat):AV→Tree AV
 | .ptr i off=>.leaf (.ptr i (off+d))
 | .eptr i sz idx off=>.leaf (.eptr i sz idx (off+d))
 | .iptr m g=>if d≤m then .leaf (.iptr (m - d) (atG g d)) else .fail
 | _=>.fail
def uI(op:BinOp)(k:IntKind)(x y:Int):Tree AV:=match op with
 | .shl=>.side (0≤y∧y≤k.bits∧inR k (x*2^y.toNat)) (.leaf (.int k (x*2^y.toNat)))
 | .shr=>.side (0≤y∧y≤k.bits) (.leaf (.int k (x.fdiv (2^y.toNat))))
 | _=>.fail
def JE(op:BinOp)(k:IntKind)(x y:Int):Tree AV:=match op with
 | .and=>.side ((0≤x∧x≤hi k)∧0≤y∧y≤hi k) (.leaf (.int k ((x.toNat &&& y.toNat:Nat):Int)))
 | .shl=>uI .shl k x y
 | .shr=>uI .shr k x y
 | .add=>.side (inR k (x+y)) (.leaf (.int k (x+y)))
 | .sub=>.side (inR k (x - y)) (.leaf (.int k (x - y)))
 | .mul=>.side (inR k (x*y)) (.leaf (.int k (x*y)))
 | .quo=>.side (y≠0∧inR k (x.tdiv y)) (.leaf (.int k (x.tdiv y)))
 | .rem=>.side (y≠0) (.leaf (.int k (x.tmod y)))
 | .eql=>.leaf (.bool (decide (x=y)))
 | .neq=>.leaf (.bool (!decide (x=y)))
 | .lss=>.leaf (.bool (decide (x<y)))
 | .leq=>.leaf (.bool (decide (x≤y)))
 | .gtr=>.leaf (.bool (decide (y<x)))
 | .geq=>.leaf (.bool (decide (y≤x)))
 | _=>.fail
def JQ(op:BinOp)(x y:List UInt8):Tree AV:=match op with
 | .add=>.side (x.length+y.length≤9223372036854775807) (.leaf (.str (x++y)))
 | .eql=>.leaf (.bool (decide (x=y)))
 | .neq=>.leaf (.bool (!decide (x=y)))
 | .lss=>.leaf (.bool (Op.bytesLess x y))
 | .leq=>.leaf (.bool (Op.bytesLess x y||decide (x=y)))
 | .gtr=>.leaf (.bool (!(Op.bytesLess x y||decide (x=y))))
 | .geq=>.leaf (.bool (!Op.bytesLess x y))
 | _=>.fail
def jm(as bs:List AV):List Field→Option Bool
 | []=>some true
 | f::fs=>if f.name ≠ "_" then match jf P f.type,P.underlying f.type,as[f.offset]?,bs[f.offset]? with
   | some false,some (.int _),some (.int k x),some (.int k' y)=>if k=k' then match jm as bs fs with
     | some r=>some (decide (x=y)&&r)
     | none=>none
    else none
   | some false,some .string,some (.str x),some (.str y)=>match jm as bs fs with
    | some r=>some (decide (x=y)&&r)
    | none=>none
   | some false,some .bool,some (.bool x),some (.bool y)=>match jm as bs fs with
    | some r=>some ((x == y)&&r)
    | none=>none
   | _,_,_,_=>none
  else jm as bs fs
def y1(op:BinOp)(t:TypeId)(n:Nat):Tree AV:=match P.underlying t with
 | some (.slice _)=>match op with
  | .eql=>.all (fun b:Bool=>0<n→b=false) fun b=>.leaf (.bool b)
  | .neq=>.all (fun b:Bool=>0<n→b=true) fun b=>.leaf (.bool b)
  | _=>.fail
 | _=>.fail
def binX(op:BinOp)(t:TypeId):AV→AV→Tree AV
 | .sl n _ _,.nils=>y1 P op t n
 | .osl _ _ _ n,.nils=>y1 P op t n
 | .int k x,.int k' y=>if k=k' then JE op k x y else uI op k x y
 | .str x,.str y=>JQ op x y
 | .bool x,.bool y=>match P.underlying t,op with
  | some .bool,.eql=>.leaf (.bool (x == y))
  | some .bool,.neq=>.leaf (.bool (!(x == y)))
  | _,_=>.fail
 | .agg as,.agg bs=>match P.underlying t with
  | some (.struct fs)=>if P.stoodInHeld t=false∧P.eqGuardType P.depth t=false then match jm P as bs fs.toList with
    | some r=>match op with
     | .eql=>.leaf (.bool r)
     | .neq=>.leaf (.bool (!r))
     | _=>.fail
    | none=>.fail
   else .fail
  | _=>.fail
 | _,_=>.fail
def xn(n:Nat):Option AV→Option AV→Tree (Nat×Nat)
 | none,none=>.leaf (0,n)
 | some (.int _ l),none=>.side (0≤l∧l≤n) (.leaf (l.toNat,n))
 | none,some (.int _ h)=>.side (0≤h∧h≤n) (.leaf (0,h.toNat))
 | some (.int _ l),some (.int _ h)=>.side (0≤l∧l≤h∧h≤n) (.leaf (l.toNat,h.toNat))
 | _,_=>.fail
def xD(t:TypeId)(l h:Option AV):AV→Tree AV
 | .str s=>match P.underlying t with
  | some .string=>(xn s.length l h).bind fun(l,h)=>.leaf (.str ((s.take h).drop l))
  | _=>.fail
 | .nils=>match P.underlying t with
  | some (.slice e)=>if(zS P e).isSome then(xn 0 l h).bind fun _=>.leaf .nils else .fail
  | _=>.fail
 | .sl n sz g=>match P.underlying t with
  | some (.slice e)=>if zS P e=some sz then(xn n l h).bind fun(l,h)=>.leaf (.sl (h - l) sz (zg g l)) else .fail
  | _=>.fail
 | .osl i sz off n=>match P.underlying t with
  | some (.slice e)=>if zS P e=some sz then(xn n l h).bind fun(l,h)=>.leaf (.osl i sz (off+l) (h - l)) else .fail
  | _=>.fail
 | _=>.fail
def ZU(t:TypeId)(l:Option AV)(h m:AV):AV→Tree AV
 | .sl n sz g=>match P.underlying t,h,m with
  | some (.slice e),.int _ h,.int _ m=>if zS P e=some sz then match l with
    | none=>.side (0≤h∧h≤m∧m≤n) (.leaf (.sl h.toNat sz (zg g 0)))
    | some (.int _ l)=>.side (0≤l∧l≤h∧h≤m∧m≤n) (.leaf (.sl (h.toNat - l.toNat) sz (zg g l.toNat)))
    | _=>.fail
   else .fail
  | _,_,_=>.fail
 | _=>.fail
def lenX(t:TypeId):AV→Tree AV
 | .str s=>match P.underlying t with
  | some .string=>.leaf (.int .i64 s.length)
  | _=>.fail
 | .nils=>match P.underlying t with
  | some (.slice _)=>.leaf (.int .i64 0)
  | _=>.fail
 | .sl n _ _=>match P.underlying t with
  | some (.slice _)=>.leaf (.int .i64 n)
  | _=>.fail
 | .osl _ _ _ n=>match P.underlying t with
  | some (.slice _)=>.leaf (.int .i64 n)
  | _=>.fail
 | _=>.fail
def w7(place:Nat→Option (Nat×Nat))(cells:List AV):List (Nat×AV)→Option (List AV)
 | []=>some cells
 | (i,v)::rest=>match place i with
  | none=>none
  | some (off,size)=>match cellsOf v with
   | some cv=>if cv.length=size∧off+size≤cells.length then w7 place (setAt cells off cv) rest else none
   | none=>none
def nilX:AV→Tree AV
 | .ptr i o=>.leaf (.ptr i o)
 | .iptr m g=>.leaf (.iptr m g)
 | .eptr i sz idx o=>.leaf (.eptr i sz idx o)
 | .fn f a b=>.leaf (.fn f a b)
 | _=>.fail
def unX(op:UnOp):AV→Tree AV
 | .bool b=>match op with
  | .not=>.leaf (.bool (!b))
  | _=>.fail
 | .int k n=>match op with
  | .neg=>.side (inR k (-n)) (.leaf (.int k (-n)))
  | _=>.fail
 | _=>.fail
def J4(h:Heap)(src t:TypeId):AV→Tree AV
 | .int _ n=>match P.underlying src,P.underlying t with
  | some (.int _),some (.int k)=>.side (inR k n) (.leaf (.int k n))
  | _,_=>.fail
 | .str s=>match P.underlying src,P.underlying t with
  | some .string,some .string=>.leaf (.str s)
  | _,_=>.fail
 | v=>match P.underlying src,P.underlying t with
  | some (.slice e),some .string=>match P.underlying e,qJ h v with
   | some (.int .u8),some (n,1,g)=>.side (∀ j,j<n→∃ b:UInt8,g j 0 = .int .u8 b.toNat) (.leaf (.str (vS n g)))
   | _,_=>.fail
  | _,_=>.fail
def kg(t:TypeId)(i:AV):AV→Tree AV
 | .sl n sz g=>match P.underlying t,i with
  | some (.slice e),.int _ i=>if zS P e=some sz then .side (0≤i∧i<n) (.leaf (.iptr sz (eltG g i.toNat))) else .fail
  | _,_=>.fail
 | .osl b sz off n=>match P.underlying t,i with
  | some (.slice e),.int _ i=>if zS P e=some sz then .side (0≤i∧i<n) (.leaf (.eptr b sz (off+i.toNat) 0)) else .fail
  | _,_=>.fail
 | .ptr b off=>match P.underlying t,i with
  | some (.array len e),.int _ i=>match zS P e with
   | some sz=>.side (0≤i∧i<len) (.leaf (.ptr b (off+i.toNat*sz)))
   | none=>.fail
  | _,_=>.fail
 | _=>.fail
def Q4(t:TypeId)(i:AV):AV→Tree AV
 | .str s=>match P.underlying t,i with
  | some .string,.int _ i=>.side (0≤i∧i<s.length) (.leaf (.int .u8 ((s.getD i.toNat 0).toNat:Nat)))
  | _,_=>.fail
 | .agg cs=>match P.underlying t,i with
  | some (.array len e),.int _ i=>match zS P e,jf P e with
   | some sz,some a=>.side (0≤i∧i<len∧i.toNat*sz+sz≤cs.length) (jM a ((cs.drop (i.toNat*sz)).take sz))
   | _,_=>.fail
  | _,_=>.fail
 | _=>.fail
def WJ(t:TypeId)(f:Nat):AV→Tree AV
 | .agg cs=>match km P t f with
  | some (o,ft,n)=>match jf P ft with
   | some a=>if o+n≤cs.length then jM a ((cs.drop o).take n) else .fail
   | none=>.fail
  | none=>.fail
 | _=>.fail
def yN(ag:Bool)(sz:Nat)(get:Nat→AV):AV:=bif ag then .agg ((List.range sz).map get) else get 0
def qv(ok:Bool)(v:AV)(b:Bool):AV:=bif ok then .tup [v,.bool b] else v
def JZ(ok ag:Bool)(sz:Nat)(get:Int→Nat→AV)(n:Int):List Int→Tree AV
 | []=>.fail
 | k::l=>.ite (decide (n=k)) (.leaf (qv ok (yN ag sz (get k)) true)) (JZ ok ag sz get n l)
def QX(ok ag:Bool)(sz:Nat)(get:Int→Nat→AV)(n:Int):List Int→Tree AV
 | []=>.leaf (qv ok (yN ag sz (get n)) true)
 | k::l=>JZ ok ag sz get n (k::l)
def scX:AV→Option (SK×Sc)
 | .int k n=>some (.inl k,.inl n)
 | .str s=>some (.inr false,.inr s)
 | .bool b=>some (.inr true,.inl (bif b then 1 else 0))
 | _=>none
def scsX:List AV→Option (List SK×List Sc)
 | []=>some ([],[])
 | a::l=>match scX a,scsX l with
  | some (k,s),some (ks,ss)=>some (k::ks,s::ss)
  | _,_=>none
def keyX:AV→Option (Bool×List SK×List Sc)
 | .agg cs=>match scsX cs with
  | some (ks,ss)=>some (true,ks,ss)
  | none=>none
 | a=>match scX a with
  | some (k,s)=>some (false,[k],[s])
  | none=>none
def kH:Nat→List Field→Option (List SK)
 | _,[]=>some []
 | o,f::fs=>if f.name ≠ "_" ∧ f.offset=o then match jf P f.type,P.underlying f.type,kH (o+1) fs with
   | some false,some (.int k),some l=>some (.inl k::l)
   | some false,some .string,some l=>some (.inr false::l)
   | some false,some .bool,some l=>some (.inr true::l)
   | _,_,_=>none
  else none
def kP(t:TypeId):Option (Bool×List SK):=match P.underlying t with
 | some (.int k)=>some (false,[.inl k])
 | some .string=>some (false,[.inr false])
 | some .bool=>some (false,[.inr true])
 | some (.struct fs)=>if P.stoodInHeld t=false then match kH P 0 fs.toList with
   | some l=>some (true,l)
   | none=>none
  else none
 | _=>none
def xE:AV→Bool
 | .bool _=>true
 | .int _ _=>true
 | .str _=>true
 | .nilp=>true
 | .nilf=>true
 | .fn _ [] []=>true
 | _=>false
def Qw:AV→Bool
 | .agg cs=>cs.all xE
 | a=>xE a
def jd(has:List Sc→Bool)(k:List Sc):List Sc→Bool:=fun x=>decide (x=k)||has x
def zF(get:List Sc→AV)(k:List Sc)(v:AV):List Sc→AV:=fun x=>if x=k then v else get x
def xU(has:List Sc→Bool)(k:List Sc):List Sc→Bool:=fun x=> !decide (x=k)&&has x
def QL:List Sc→Bool:=fun _=>false
def KH:List Sc→AV:=fun _=>.undef
def JX(h:Heap)(t:TypeId)(ok:Bool)(i:Nat)(key:AV):Tree AV:=match h[i]?,keyX key,P.underlying t with
 | some (.map ag sh has get _),some (ag',sh',k),some (.map kt et)=>match kP P kt,(P.info? et).bind (·.zero) with
  | some (ag2,sh2),some z=>if ag'=ag∧sh'=sh∧ag2=ag∧sh2=sh then .ite (has k) (.leaf (qv ok (get k) true)) (.leaf (qv ok (kC z) false)) else .fail
  | _,_=>.fail
 | _,_,_=>.fail
def xe(h:Heap)(t:TypeId)(ok:Bool):AV→AV→Tree AV
 | .omap i,key=>JX P h t ok i key
 | .mp k ag sz ks has get,.int k' n=>match P.underlying t with
  | some (.map kt et)=>match P.underlying kt,jf P et,(P.info? et).bind (·.zero) with
   | some (.int kk),some a,some z=>if k=k'∧kk=k∧a=ag then .ite (has n) (QX ok ag sz get n ks) (.leaf (qv ok (kC z) false)) else .fail
   | _,_,_=>.fail
  | _=>.fail
 | _,_=>.fail
def yW(i:Nat):AV→Tree AV
 | .tup vs=>match vs[i]? with
  | some v=>.leaf v
  | none=>.fail
 | _=>.fail
def Wd(t:TypeId)(parts:List (Nat×AV)):Tree AV:=match P.underlying t with
 | some (.struct fs)=>match zeroCells P t with
  | some cs=>match w7 (fun i=>match fs[i]? with
    | some f=>(zS P f.type).map fun n=>(f.offset,n)
    | none=>none) cs parts with
   | some cs=>if fs.all fun f=>(zS P f.type).isSome then .leaf (.agg cs) else .fail
   | none=>.fail
  | none=>.fail
 | some (.array _ e)=>match zeroCells P t,zS P e with
  | some cs,some sz=>match w7 (fun i=>some (i*sz,sz)) cs parts with
   | some cs=>.leaf (.agg cs)
   | none=>.fail
  | _,_=>.fail
 | _=>.fail
def xc(b:Builtin):List AV→Tree AV
 | [.int k x,.int k' y]=>if k=k' then match b with
   | .max=>.leaf (.int k (max x y))
   | .min=>.leaf (.int k (min x y))
   | _=>.fail
  else .fail
 | _=>.fail
def valX(ρ:Operand→AV)(h:Heap)(op:Op):Tree AV:=match op with
 | .move x | .assign x=>.leaf (ρ x)
 | .build t parts=>Wd P t (parts.toList.map fun p=>(p.1,ρ p.2))
 | .load t a=>yn P h t (ρ a)
 | .nilCheck x=>nilX (ρ x)
 | .binOp op t x y _=>binX P op t (ρ x) (ρ y)
 | .unOp op _ x=>unX op (ρ x)
 | .convert s t x=>J4 P h s t (ρ x)
 | .makeFunc (.func f) first cap=>.leaf (.fn f (first.toList.map ρ) (cap.toList.map ρ))
 | .slice t x l h' none=>xD P t (l.map ρ) (h'.map ρ) (ρ x)
 | .slice t x l (some h) (some m)=>ZU P t (l.map ρ) (ρ h) (ρ m) (ρ x)
 | .fieldAddr t x f=>match km P t f with
  | some (o,_,_)=>WY o (ρ x)
  | none=>.fail
 | .field t x f=>WJ P t f (ρ x)
 | .indexAddr t x i=>kg P t (ρ i) (ρ x)
 | .index t x i=>Q4 P t (ρ i) (ρ x)
 | .extract t i=>yW i (ρ t)
 | .lookup t x i ok=>xe P h t ok (ρ x) (ρ i)
 | .call c=>match c.callee with
  | .builtin .len=>match c.argTypes.toList,c.args.toList with
   | [t],[x]=>lenX P t (ρ x)
   | _,_=>.fail
  | .builtin .max=>xc .max (c.args.toList.map ρ)
  | .builtin .min=>xc .min (c.args.toList.map ρ)
  | _=>.fail
 | _=>.fail
def qT:Nat:=140737488355328
def frzM(f:AV→Option (AV×List Nat)):List AV→Option (List AV×List Nat)
 | []=>some ([],[])
 | a::l=>match f a,frzM f l with
  | some (a,i),some (l,k)=>some (a::l,i++k)
  | _,_=>none
def frzD:Nat→Heap→AV→Option (AV×List Nat)
 | 0,_,_=>none
 | d+1,h,.osl i sz off n=>match qJ h (.osl i sz off n) with
  | some (n,sz,g)=>some (.sl n sz g,[i])
  | none=>match h[i]? with
   | some (.box cs)=>if(off+n)*sz≤cs.length then match frzM (frzD d h) cs with
     | some (cs,k)=>some (.sl n sz (zg (zh sz cs) off),i::k)
     | none=>none
    else none
   | _=>none
 | _+1,_,.sl n sz g=>some (.sl n sz g,[])
 | _+1,_,.int k n=>some (.int k n,[])
 | _+1,_,.str s=>some (.str s,[])
 | _+1,_,.bool b=>some (.bool b,[])
 | _+1,_,.nils=>some (.nils,[])
 | _+1,_,_=>none
def frz1(h:Heap):AV→Option (AV×List Nat)
 | .osl i sz off n=>match qJ h (.osl i sz off n) with
  | some (n,sz,g)=>some (.sl n sz g,[i])
  | none=>frzD 8 h (.osl i sz off n)
 | .ptr _ _=>none
 | .eptr _ _ _ _=>none
 | .omap _=>none
 | .agg _=>none
 | .tup _=>none
 | .fn f [] []=>some (.fn f [] [],[])
 | .fn _ _ _=>none
 | .opt _ _ _=>none
 | .undef=>none
 | x=>some (x,[])
def frzL(h:Heap):List AV→Option (List AV×List Nat)
 | []=>some ([],[])
 | a::l=>match frz1 h a,frzL h l with
  | some (a,i),some (l,k)=>some (a::l,i++k)
  | _,_=>none
def frz(h:Heap):AV→Option (AV×List Nat)
 | .agg cs=>match frzL h cs with
  | some (cs,k)=>some (.agg cs,k)
  | none=>none
 | .tup cs=>match frzL h cs with
  | some (cs,k)=>some (.tup cs,k)
  | none=>none
 | x=>frz1 h x
def j4(k:List Nat):List (Nat×Blk):=k.map fun i=>(i,.dead)
def Wz(h:Heap)(t:TypeId)(v:AV):AV→Tree Res
 | .ptr i off=>match h[i]?,zS P t,cellsOf v with
  | some (.box cells),some n,some cv=>if cv.length=n∧off+n≤cells.length∧cv.all oneA=true then .leaf ⟨.undef,[(i,.box (setAt cells off cv))],[]⟩ else .fail
  | _,_,_=>.fail
 | .eptr i sz idx off=>match h[i]?,zS P t,cellsOf v with
  | some (.arr n' sz' g),some n,some cv=>if sz=sz'∧cv.length=n∧off+n≤sz then match frzL h cv with
    | some (cv,k)=>if k.contains i then .fail else .leaf ⟨.undef,(i,.arr n' sz' (updG g idx off cv))::j4 k,k⟩
    | none=>.fail
   else .fail
  | some (.arrI k n' f),some 1,some [.int k' v]=>if sz=1∧off=0∧k=k' then .leaf ⟨.undef,[(i,.arrI k n' (updI f idx v))],[]⟩ else .fail
  | some (.arrS n' f),some 1,some [.str v]=>if sz=1∧off=0 then .leaf ⟨.undef,[(i,.arrS n' (updS f idx v))],[]⟩ else .fail
  | some (.box cells),some n,some cv=>if cv.length=n∧(idx*sz+off)+n≤cells.length∧cv.all oneA=true then .leaf ⟨.undef,[(i,.box (setAt cells (idx*sz+off) cv))],[]⟩ else .fail
  | _,_,_=>.fail
 | _=>.fail
def QD(sz:Nat)(h:Heap):AV→Option (Nat×(Nat→Nat→AV))
 | .nils=>some (0,fun _ _=>.undef)
 | x=>match qJ h x with
  | some (n,sz',g)=>if sz'=sz then some (n,g) else none
  | none=>none
def Qm(h:Heap)(t tx:TypeId)(s x:AV):Tree Res:=match P.underlying t,P.underlying tx with
 | some (.slice e),some (.slice _)=>match P.info? e with
  | some i=>if i.bytes=0∨(zeroCells P e).map List.length≠some i.size then .fail else match QD i.size h x,s with
   | some (n2,g2),.nils=>.side (n2*i.bytes≤qT) (.leaf ⟨.osl h.length i.size 0 n2,[(h.length,.arr n2 i.size g2)],[]⟩)
   | some (n2,g2),.osl b sz off n=>match h[b]? with
    | some (.arr n' sz' g)=>if sz=i.size∧sz'=i.size then
      .side (off=0∧n≤n'∧(n+n2)*i.bytes≤qT) (.leaf ⟨.osl b i.size 0 (n+n2),[(b,.arr (n+n2) i.size (appG n g g2))],[b]⟩)
     else .fail
    | _=>.fail
   | _,_=>.fail
  | none=>.fail
 | _,_=>.fail
def Jz:AV→List Nat
 | .osl i _ _ _=>[i]
 | .ptr i _=>[i]
 | .eptr i _ _ _=>[i]
 | .omap i=>[i]
 | _=>[]
def Jm:AV→List Nat
 | .agg cs=>cs.flatMap Jz
 | .tup cs=>cs.flatMap Jz
 | .fn _ a b=>a.flatMap Jz++b.flatMap Jz
 | x=>Jz x
def Xi:AV→List Nat
 | .tup cs=>cs.flatMap Jm
 | .fn _ a b=>a.flatMap Jm++b.flatMap Jm
 | x=>Jm x
def zb8:Blk→List Nat
 | .box cs=>cs.flatMap Jm
 | _=>[]
def ren0(f:Nat→Option Nat):AV→AV
 | .osl i sz off n=>match f i with
  | some j=>.osl j sz off n
  | none=>.undef
 | .ptr i off=>match f i with
  | some j=>.ptr j off
  | none=>.undef
 | .eptr i sz idx off=>match f i with
  | some j=>.eptr j sz idx off
  | none=>.undef
 | .omap i=>match f i with
  | some j=>.omap j
  | none=>.undef
 | .agg _=>.undef
 | .tup _=>.undef
 | .opt _ _ _=>.undef
 | .fn g a b=>match a,b with
  | [],[]=>.fn g [] []
  | _,_=>.undef
 | x=>x
def ren1(f:Nat→Option Nat):AV→AV
 | .agg cs=>.agg (cs.map (ren0 f))
 | .fn g a b=>.fn g (a.map (ren0 f)) (b.map (ren0 f))
 | x=>ren0 f x
def ren2(f:Nat→Option Nat):AV→AV
 | .tup cs=>.tup (cs.map (ren1 f))
 | .fn g a b=>.fn g (a.map (ren1 f)) (b.map (ren1 f))
 | x=>ren1 f x
def renB(f:Nat→Option Nat):Blk→Blk
 | .box cs=>.box (cs.map (ren1 f))
 | b=>b
def zo:List Nat→Nat→Option Nat
 | [],_=>none
 | x::l,i=>if x=i then some 0 else(zo l i).map (· + 1)
def wg(L:List Nat)(d:Nat)(j:Nat):Option Nat:=if j<L.length then L[j]? else some (d+(j - L.length))
def jH:List Nat→Bool
 | []=>true
 | i::l=> !l.contains i&&jH l
def reach(h:Heap):Nat→List Nat→List Nat→List Nat
 | 0,_,acc=>acc
 | _+1,[],acc=>acc
 | n+1,i::t,acc=>if acc.contains i then reach h n t acc else reach h n ((match h[i]? with
  | some b=>zb8 b
  | none=>[])++t) (acc++[i])
def wj:List Nat→Nat→List Blk→List (Nat×Blk)
 | [],d,b::l=>(d,b)::wj [] (d+1) l
 | i::L,d,b::l=>(i,b)::wj L d l
 | _,_,[]=>[]
def Vm(h:Heap)(c:Ctr)(args:List AV)(L:List Nat):Tree Res:=
 if(L.all fun i=>decide (i<h.length))&&jH L then
  (c.spec (args.map (ren2 (zo L))) (L.map fun i=>renB (zo L) (h.getD i .dead))).bind fun r=>
   if L.length≤r.2.length then .leaf ⟨ren2 (wg L h.length) r.1,wj L h.length (r.2.map (renB (wg L h.length))),bif c.jS then L.drop c.pins else []⟩ else .fail
 else .fail
def zw:List Nat→Heap→Heap
 | [],h=>h
 | i::k,h=>zw k (h.map (ZC i))
def z5:List Nat→AV→AV
 | [],a=>a
 | i::K,a=>z5 K (zO i a)
def wG(K:List Nat)(h:Heap)(a:AV):AV:=match frz h a with
 | some (a',k)=>bif k.all K.contains then a' else z5 K a
 | none=>z5 K a
def Yf(h:Heap)(c:Ctr)(args:List AV)(K:List Nat):Tree Res:=
 if(K.all fun i=>decide (i<h.length)) then(Vm (zi (zw K h) (j4 K)) c (args.map (wG K h)) (reach (zi (zw K h) (j4 K)) 60 ((args.map (wG K h)).flatMap Xi) [])).bind fun r=>.leaf ⟨r.val,j4 K++r.eff,K++r.kill⟩ else .fail
def Ye(h:Heap)(f:Nat)(args:List AV):Tree Res:=match Γ f with
 | some c=>match c.fresh with
  | true=>match args.mapM fun a=>frz h a with
   | some l=>(c.spec (l.map (·.1)) []).bind fun r=>.leaf ⟨ren2 (wg [] h.length) r.1,wj [] h.length (r.2.map (renB (wg [] h.length))),[]⟩
   | none=>.fail
  | false=>bif c.sinks then Yf h c args ((args.filterMap (frz h)).flatMap (·.2)) else Vm h c args (reach h 60 (args.flatMap Xi) [])
 | none=>.fail
def yJ(h:Heap)(t:TypeId):Tree Res:=match P.underlying t with
 | some (.map kt _)=>match kP P kt with
  | some (ag,sh)=>.leaf ⟨.omap h.length,[(h.length,.map ag sh QL KH)],[]⟩
  | none=>.fail
 | _=>.fail
def Ve(h:Heap)(t:TypeId)(m key v:AV):Tree Res:=match m with
 | .omap i=>match h[i]?,keyX key,P.underlying t with
  | some (.map ag sh has get _),some (ag',sh',k),some (.map kt _)=>match kP P kt with
   | some (ag2,sh2)=>if ag'=ag∧sh'=sh∧ag2=ag∧sh2=sh∧Qw v=true then .leaf ⟨.undef,[(i,.map ag sh (jd has k) (zF get k v))],[]⟩ else .fail
   | none=>.fail
  | _,_,_=>.fail
 | _=>.fail
def Ya(h:Heap)(t:TypeId)(m key:AV):Tree Res:=match m with
 | .omap i=>match h[i]?,keyX key,P.underlying t with
  | some (.map ag sh has get _),some (ag',sh',k),some (.map kt _)=>match kP P kt with
   | some (ag2,sh2)=>if ag'=ag∧sh'=sh∧ag2=ag∧sh2=sh then .leaf ⟨.tup [],[(i,.map ag sh (xU has k) get)],[]⟩ else .fail
   | none=>.fail
  | _,_,_=>.fail
 | _=>.fail
def Yh(h:Heap)(t:TypeId)(m key:AV):Tree Res:=match m with
 | .omap i=>match h[i]?,keyX key,P.underlying t with
  | some (.map ag sh has get _),some (ag',sh',k),some (.map kt et)=>match kP P kt,(P.info? et).bind (·.zero) with
   | some (ag2,sh2),some _=>if ag'=ag∧sh'=sh∧ag2=ag∧sh2=sh then .all (fun _:Int=>True) fun st=>.leaf ⟨.tup [.undef,.int .i64 st],[(i,.map ag sh (jd has k) (zF get k .undef) (some (k,st)))],[]⟩ else .fail
   | _,_=>.fail
  | _,_,_=>.fail
 | _=>.fail
def XQ(h:Heap)(m stamp v:AV):Tree Res:=match m,stamp with
 | .omap i,.int _ st=>match h[i]? with
  | some (.map ag sh has get (some (k,st')))=>if Qw v=true then .side (st=st') (.leaf ⟨.undef,[(i,.map ag sh has (zF get k v))],[]⟩) else .fail
  | _=>.fail
 | _,_=>.fail
def zb2:AV→Bool
 | .osl _ _ _ _=>true
 | _=>false
def opX(ρ:Operand→AV)(h:Heap)(op:Op):Tree Res:=match op with
 | .alloc t=>match zeroCells P t with
  | some cs=>.leaf ⟨.ptr h.length 0,[(h.length,.box cs)],[]⟩
  | none=>.fail
 | .box _ x=>match cellsOf (ρ x) with
  | some cs=>.leaf ⟨.ptr h.length 0,[(h.length,.box cs)],[]⟩
  | none=>.fail
 | .buildSlice t len parts=>match P.underlying t with
  | some (.slice e)=>match zeroCells P e,zS P e with
   | some cs,some sz=>if len*sz≤16777216∧cs.length=sz then match w7 (fun i=>some (i*sz,sz)) (List.replicate len cs).flatten (parts.toList.map fun p=>(p.1,ρ p.2)) with
    | some cs=>bif cs.any zb2 then .leaf ⟨.osl h.length sz 0 len,[(h.length,.box cs)],[]⟩ else match frzL h cs with
     | some (cs,k)=>.leaf ⟨.osl h.length sz 0 len,(h.length,.arr len sz (zh sz cs))::j4 k,k⟩
     | none=>.fail
    | none=>.fail
    else .fail
   | _,_=>.fail
  | _=>.fail
 | .store t a v=>Wz P h t (ρ v) (ρ a)
 | .makeMap t none=>yJ P h t
 | .mapUpdate t m k v=>Ve P h t (ρ m) (ρ k) (ρ v)
 | .insert t m k v=>Ve P h t (ρ m) (ρ k) (ρ v)
 | .mapEntry t m k=>Yh P h t (ρ m) (ρ k)
 | .entryStore _ m s v=>XQ h (ρ m) (ρ s) (ρ v)
 | .makeSlice t l c=>match P.underlying t,ρ l,ρ c with
  | some (.slice e),.int _ l,.int _ c=>match P.info? e,zeroCells P e with
   | some i,some z=>if z.length=i.size∧z.all oneA=true then .side (0≤l∧l≤c∧inR .i64 c∧c.toNat*i.bytes≤qT) (.leaf ⟨.osl h.length i.size 0 l.toNat,[(h.length,.arr l.toNat i.size (x1 z))],[]⟩) else .fail
   | _,_=>.fail
  | _,_,_=>.fail
 | .call c=>match c.callee with
  | .builtin .append=>match c.argTypes.toList,c.args.toList with
   | [t,tx],[s,x]=>Qm P h t tx (ρ s) (ρ x)
   | _,_=>.fail
  | .builtin .delete=>match c.argTypes.toList,c.args.toList with
   | [t,_],[m,k]=>Ya P h t (ρ m) (ρ k)
   | _,_=>.fail
  | .builtin _=>(valX P ρ h (.call c)).bind fun v=>.leaf ⟨v,[],[]⟩
  | .value f=>match ρ f with
   | .fn g first cap=>Ye Γ h g (first++c.args.toList.map ρ++cap)
   | _=>.fail
  | _=>.fail
 | op=>(valX P ρ h op).bind fun v=>.leaf ⟨v,[],[]⟩
def KD(ρ':Bool→AV):AV→Tree AV
 | .bool c=>match ρ' true,ρ' false with
  | .bool x,.bool y=>.leaf (.bool (bif c then x else y))
  | _,_=>.fail
 | _=>.fail
variable [Stat]
def see(K:List (Nat×Bool)):AV→AV
 | .opt t want x=>if K.contains (t,want) then x else .undef
 | x=>x
def zG(st:St)(K:List (Nat×Bool)):Operand→AV
 | .tmp t=>see K (st.tmps.getD t .undef)
 | .const v=>kC v
 | .func f=>.fn f [] []
 | .global g=>match Stat.z g with
  | some a=>.iptr 1 fun _=>a
  | none=>.gptr g
def zQ(t:Nat):AV→AV
 | .opt u want x=>if u=t then .undef else .opt u want x
 | x=>x
def wK:List Nat→List AV→List AV
 | [],ts=>ts
 | i::k,ts=>wK k (ts.map (zO i))
def putX(st:St)(dst:Option Nat)(r:Res):St:=
 match dst with
 | some d=>⟨((wK r.kill st.tmps).map (zQ d)).set d r.val,zi (zw r.kill st.heap) r.eff⟩
 | none=>⟨wK r.kill st.tmps,zi (zw r.kill st.heap) r.eff⟩
def q5(tmps:List AV):Nat→Nat→Bool→List (Nat×Bool)
 | 0,t,want=>[(t,want)]
 | d+1,t,want=>(t,want)::match tmps.getD t .undef with
  | .opt u w _=>q5 tmps d u w
  | _=>[]
def jn(tmps:List AV):Nat→Nat→Bool→Option Prop
 | 0,_,_=>none
 | d+1,t,want=>match tmps.getD t .undef with
  | .bool b=>some (b=want)
  | .opt u w (.bool b)=>match jn tmps d u w with
   | some p=>some (p∧b=want)
   | none=>none
  | _=>none
def pinX{α:Type}(pin:Nat)(r:Res)(t:Tree α):Tree α:=match r.kill with
 | []=>t
 | k=>if k.all fun i=>decide (pin≤i) then t else .fail
def Y3(st:St)(K:List (Nat×Bool))(c a b:Operand):Tree AV:=match c with
 | .tmp u=>KD (fun w=>match w with | true=>zG st ((u,true)::K) a | false=>zG st ((u,false)::K) b) (zG st K c)
 | _=>.fail
def opV(st:St)(K:List (Nat×Bool))(op:Op):Tree Res:=match op with
 | .pick c a b=>(Y3 st K c a b).bind fun v=>.leaf ⟨v,[],[]⟩
 | op=>opX P Γ (zG st K) st.heap op
def wU(q:Prop)(t:Nat)(want:Bool):Tree Res→Tree Res
 | .leaf ⟨v,[],[]⟩=>.leaf ⟨.opt t want v,[],[]⟩
 | .leaf _=>.fail
 | .ite b x y=>.ite b (wU q t want x) (wU q t want y)
 | .side p x=>.side (q→p) (wU q t want x)
 | .ex p k=>.ex (fun x=>q→p x) fun x=>wU q t want (k x)
 | .all p k=>.all (fun x=>q→p x) fun x=>wU q t want (k x)
 | .fail=>.fail
def kf(tmps:List AV):Nat→Nat→Bool→Option Bool
 | 0,_,_=>none
 | d+1,t,want=>match tmps.getD t .undef with
  | .bool b=>some (b == want)
  | .opt u w (.bool b)=>match kf tmps d u w with
   | some g=>some (g&&(b == want))
   | none=>none
  | _=>none
def vF(ρ:Operand→AV)(h:Heap):Op→Bool
 | .call c=>match c.callee with
  | .value f=>match ρ f with
   | .fn g first cap=>match Γ g with
    | some ctr=> !ctr.fresh && !(reach h 60 ((first++c.args.toList.map ρ++cap).flatMap Xi) []).isEmpty
    | none=>false
   | _=>false
  | _=>false
 | .buildSlice _ _ _=>true
 | _=>false
def Yu(t:TypeId):AV:=match P.info? t with
 | some i=>match i.zero with
  | some v=>kC v
  | none=>.undef
 | none=>.undef
def ZS(st:St)(t:Nat)(want:Bool)(o:Oper):Tree Res:=match kf st.tmps 4 t want,o.dst with
 | some g,some d=>if d≠t then .ite g ((opV P Γ st (q5 st.tmps 4 t want) o.op).bind fun r=>.leaf ⟨see [] r.val,r.eff,r.kill⟩) (.leaf ⟨.opt t want (Yu P o.type),[],[]⟩) else .fail
 | _,_=>.fail
def qI(ops:Array Oper)(st:St)(o:Oper):Tree Res:=match o.guard with
 | none=>(opV P Γ st [] o.op).bind fun r=>.leaf ⟨see [] r.val,r.eff,r.kill⟩
 | some (j,want)=>match(ops[j]?).bind (·.dst) with
  | none=>.fail
  | some t=>match vF Γ (zG st (q5 st.tmps 4 t want)) st.heap o.op with
   | true=>ZS P Γ st t want o
   | false=>match jn st.tmps 4 t want,o.dst with
    | some q,some d=>if d≠t then wU q t want (opV P Γ st (q5 st.tmps 4 t want) o.op) else .fail
    | _,_=>.fail
def Xn(pin:Nat)(ops:Array Oper)(st:St)(o:Oper):Tree St:=(qI P Γ ops st o).bind fun r=>pinX pin r (.leaf (putX st o.dst r))
def opsX(pin:Nat)(ops:Array Oper):List Oper→St→Tree St
 | [],st=>.leaf st
 | o::rest,st=>(Xn P Γ pin ops st o).bind (opsX pin ops rest)
def jL(o:Oper):List Nat:=o.after.toList.filterMap fun e=>if Region.binds .any e then some e.on else none
def Jy(ops:Array Oper)(L:List Nat)(i:Nat):Bool:= !L.contains i&&match ops[i]? with
 | some o=>(jL o).all fun k=>L.contains k
 | none=>false
def vy(ops:Array Oper)(L:List Nat):List Nat:=(List.range ops.size).filter (Jy ops L)
def ancs(ops:Array Oper):Nat→List Nat→List Nat→List Nat
 | 0,_,acc=>acc
 | _+1,[],acc=>acc
 | n+1,i::t,acc=>if acc.contains i then ancs ops n t acc else ancs ops n ((match ops[i]? with
  | some o=>jL o
  | none=>[])++t) (i::acc)
def ju(ops:Array Oper)(o:Oper):List Nat:=ancs ops 300 (jL o) []
def Yp(o:Oper):List Nat:=o.op.operands.toList.filterMap fun | .tmp t=>some t | _=>none
def XD:AV→List Nat
 | .opt u _ _=>[u]
 | _=>[]
def qV(tmps:List AV):Nat→Nat→List Nat
 | 0,t=>[t]
 | n+1,t=>t::match tmps.getD t .undef with
  | .opt u _ _=>qV tmps n u
  | _=>[]
def qy(ops:Array Oper)(tmps:List AV)(o:Oper):List Nat:=Yp o++match o.guard with
 | some (j,_)=>match(ops[j]?).bind (·.dst) with
  | some t=>qV tmps 4 t
  | none=>[]
 | none=>[]
def zJ(ops:Array Oper)(tmps:List AV)(o:Oper):List Nat:=qy ops tmps o++(qy ops tmps o).flatMap fun t=>XD (tmps.getD t .undef)
def zV(ρ:Operand→AV):Op→Option (List Nat)
 | .load _ a=>match ρ a with
  | .ptr i _=>some [i]
  | .eptr i _ _ _=>some [i]
  | .iptr _ _=>some []
  | _=>none
 | .convert _ _ x=>match ρ x with
  | .int _ _=>some []
  | .str _=>some []
  | _=>none
 | .move _ | .assign _ | .build _ _ | .nilCheck _ | .binOp _ _ _ _ _ | .unOp _ _ _ | .makeFunc _ _ _ | .slice _ _ _ _ _ | .fieldAddr _ _ _ | .field _ _ _ | .indexAddr _ _ _ | .index _ _ _ | .extract _ _ | .pick _ _ _=>some []
 | .call c=>match c.callee with
  | .builtin .len=>some []
  | .builtin .max=>some []
  | .builtin .min=>some []
  | _=>none
 | _=>none
def vu(ops:Array Oper)(st:St)(o:Oper):List (Nat×Bool):=match o.guard with
 | some (j,want)=>match(ops[j]?).bind (·.dst) with
  | some t=>q5 st.tmps 4 t want
  | none=>[]
 | none=>[]
structure Ent where
 k:Nat
 d:Nat
 looks:List Nat
 labs:List Nat
 x:AV
def Xd(ops:Array Oper)(st:St)(i:Nat):Option Ent:=match ops[i]? with
 | some o=>match o.dst,zV (zG st (vu ops st o)) o.op with
  | some d,some ls=>if(zJ ops st.tmps o).contains d || !(ls.all fun i=>decide (i<st.heap.length)) then none else match(qI P Γ ops st o).chain with
   | some (_,⟨x,[],[]⟩)=>some ⟨i,d,zJ ops st.tmps o,ls,x⟩
   | _=>none
  | _,_=>none
 | none=>none
def jR(A:List Nat)(dst:Option Nat)(looks:List Nat)(quiet:Bool)(e:Ent):Bool:=
 (A.contains e.k&&(!quiet||match dst with
  | some d=> !e.looks.contains d && !(d == e.d)
  | none=>true)) ||
 ((match dst with
  | some d=> !e.looks.contains d && !(d == e.d)
  | none=>true) && !looks.contains e.d)
def ka(K:List Nat):AV→Bool
 | .osl i _ _ _=> !K.contains i
 | .eptr i _ _ _=> !K.contains i
 | .ptr i _=> !K.contains i
 | .omap i=> !K.contains i
 | .agg _=>false
 | .tup _=>false
 | .fn _ a b=>a.isEmpty&&b.isEmpty
 | .opt _ _ _=>false
 | _=>true
def uC(K:List Nat):AV→Bool
 | .agg cs=>cs.all (ka K)
 | .tup cs=>cs.all (ka K)
 | x=>ka K x
def Xj(K:List Nat):Blk→Bool
 | .box cs=>cs.all (uC K)
 | _=>true
def effK(A:List Nat)(st:St)(r:Res)(e:Ent):Bool:=A.contains e.k||(r.kill.isEmpty||(uC r.kill e.x&&e.looks.all (fun t=>uC r.kill (st.tmps.getD t .undef))))
def effE(A:List Nat)(st:St)(r:Res)(e:Ent):Bool:=A.contains e.k||(r.eff.all (fun p=> !e.labs.contains p.1)&&(r.kill.isEmpty||e.labs.all fun i=>Xj r.kill (st.heap.getD i .dead)))
def Qs:AV→AV→Option Prop
 | .str s,.str t=>some (s=t)
 | .int k n,.int k' n'=>if k=k' then some (n=n') else none
 | .bool a,.bool b=>some (a=b)
 | .ptr i o,.ptr j q=>if i=j∧o=q then some True else none
 | .eptr i z x o,.eptr j y x' q=>if i=j∧z=y∧o=q then some (x=x') else none
 | .omap i,.omap j=>if i=j then some True else none
 | .fn f [] [],.fn g [] []=>some (f=g)
 | .nils,.nils=>some True
 | .nilp,.nilp=>some True
 | .nilf,.nilf=>some True
 | .sl n z g,.sl m y h=>some (n=m∧z=y∧g=h)
 | .osl i z o n,.osl j y q m=>if i=j∧z=y then some (o=q∧n=m) else none
 | _,_=>none
def ye{α:Type}(ops:Array Oper)(st:St):List Ent→Tree α→Tree α
 | [],t=>t
 | e::l,t=>match ops[e.k]? with
  | some o=>(qI P Γ ops st o).bind fun r=>match r with
   | ⟨x,[],[]⟩=>match Qs x e.x with
    | some p=>.side p (ye ops st l t)
    | none=>.fail
   | _=>.fail
  | none=>.fail
def UW(ops:Array Oper)(st:St)(res:List Ent)(i:Nat):Option Ent:=match Xd P Γ ops st i with
 | some e=>match ops[e.k]? with
  | some o=>if res.all (jR (ju ops o) o.dst (zJ ops st.tmps o) true) then some e else none
  | none=>none
 | none=>none
def WU{α:Type} : List (Tree α)→Tree α
 | []=>.fail
 | [t]=>t
 | t::l=>.all (fun _:Bool=>True) fun b=>.ite b t (WU l)
def anyX(pin:Nat)(ops:Array Oper):Nat→List Nat→List Ent→St→Tree St
 | 0,_,_,_=>.fail
 | n+1,L,res,st=>match vy ops L with
  | []=>.leaf st
  | i0::rs=>match(i0::rs).findSome? (UW P Γ ops st res) with
   | some e=>match ops[e.k]? with
    | some o=>if res.all (jR (ju ops o) o.dst (zJ ops st.tmps o) true)&&(i0::rs).contains e.k then
      (qI P Γ ops st o).bind fun r=>anyX pin ops n (e.k::L) (e::res) (putX st o.dst r)
     else .fail
    | none=>.fail
   | none=>WU ((i0::rs).map fun i=>match ops[i]? with
    | some o=>if res.all (jR (ju ops o) o.dst (zJ ops st.tmps o) false) then
      (qI P Γ ops st o).bind fun r=>if res.all (effK (ju ops o) st r) then pinX pin r (ye P Γ ops (putX st o.dst r) (res.filter fun e=> !effE (ju ops o) st r e) (anyX pin ops n (i::L) res (putX st o.dst r))) else .fail
     else .fail
    | none=>.fail)
def kX(st:St):St:=⟨st.tmps.map fun | .opt _ _ _=>.undef | x=>x,st.heap⟩
def Q1{α:Type u} : AV→(AV→α)→α
 | .undef,f=>f .undef
 | .bool b,f=>f (.bool b)
 | .int k n,f=>f (.int k n)
 | .str s,f=>f (.str s)
 | .nils,f=>f .nils
 | .sl n sz g,f=>f (.sl n sz g)
 | .osl i sz off n,f=>f (.osl i sz off n)
 | .ptr i off,f=>f (.ptr i off)
 | .nilp,f=>f .nilp
 | .eptr i sz idx off,f=>f (.eptr i sz idx off)
 | .iptr m g,f=>f (.iptr m g)
 | .gptr g,f=>f (.gptr g)
 | .agg cs,f=>f (.agg cs)
 | .tup cs,f=>f (.tup cs)
 | .fn g a b,f=>f (.fn g a b)
 | .nilf,f=>f .nilf
 | .opt t w x,f=>f (.opt t w x)
 | .mp k ag sz ks has get,f=>f (.mp k ag sz ks has get)
 | .omap i,f=>f (.omap i)
def vA{α:Type u} : List AV→(List AV→α)→α
 | [],f=>f []
 | a::l,f=>Q1 a fun a=>vA l fun l=>f (a::l)
def Wm{α:Type u} : AV→(AV→α)→α
 | .agg cs,f=>vA cs fun cs=>f (.agg cs)
 | .tup cs,f=>vA cs fun cs=>f (.tup cs)
 | .fn g a b,f=>vA a fun a=>vA b fun b=>f (.fn g a b)
 | x,f=>Q1 x f
def uU{α:Type u} : List AV→(List AV→α)→α
 | [],f=>f []
 | a::l,f=>Wm a fun a=>uU l fun l=>f (a::l)
def jw{α:Type u} : Heap→(Heap→α)→α
 | [],f=>f []
 | .dead::l,f=>jw l fun l=>f (.dead::l)
 | .box cs::l,f=>uU cs fun cs=>jw l fun l=>f (.box cs::l)
 | .arr n sz g::l,f=>jw l fun l=>f (.arr n sz g::l)
 | .map ag sh has get pe::l,f=>jw l fun l=>f (.map ag sh has get pe::l)
 | .arrI k n g::l,f=>jw l fun l=>f (.arrI k n g::l)
 | .arrS n g::l,f=>jw l fun l=>f (.arrS n g::l)
def force{α:Type u}(st:St)(f:St→α):α:=uU st.tmps fun t=>jw st.heap fun h=>f ⟨t,h⟩
theorem yB{α:Type u}(a:AV)(f:AV→α):Q1 a f=f a:=by cases a<;>rfl
theorem u1{α:Type u} : ∀ (l:List AV) (f:List AV→α),vA l f=f l
 | [],_=>rfl
 | a::l,f=>by simp only [vA,yB,u1 l]
theorem Kn{α:Type u}(a:AV)(f:AV→α):Wm a f=f a:=by cases a<;>simp only [Wm,yB,u1]
theorem xL{α:Type u} : ∀ (l:List AV) (f:List AV→α),uU l f=f l
 | [],_=>rfl
 | a::l,f=>by simp only [uU,Kn,xL l]
theorem jK{α:Type u} : ∀ (l:Heap) (f:Heap→α),jw l f=f l
 | [],_=>rfl
 | .dead::l,f=>by simp only [jw,jK l]
 | .box cs::l,f=>by simp only [jw,xL,jK l]
 | .arr n sz g::l,f=>by simp only [jw,jK l]
 | .map ag sh has get pe::l,f=>by simp only [jw,jK l]
 | .arrI k n g::l,f=>by simp only [jw,jK l]
 | .arrS n g::l,f=>by simp only [jw,jK l]
theorem force_eq{α:Type u}(st:St)(f:St→α):force st f=f st:=by simp only [force,xL,jK]
inductive Item where
 | code (c:Code)
 | inBlock (id:Nat)
 | inLoop
inductive Leaf where
 | ret (st:St)
 | back (d:Nat) (st:St)
 | loop (c:Code) (k:List Item) (st:St)
 | range (c:Code) (k:List Item) (st:St)
def qR:List Item→Nat
 | []=>0
 | .inLoop::k=>qR k+1
 | _::k=>qR k
def exitTo(id:Nat):List Item→Option (List Item)
 | []=>none
 | .inBlock i::k=>if i=id then some k else exitTo id k
 | _::k=>exitTo id k
def run(pin:Nat):Nat→List Item→St→Tree Leaf
 | 0,_,_=>.fail
 | _+1,[],st=>.leaf (.ret st)
 | n+1,.inBlock _::k,st=>run pin n k st
 | _+1,.inLoop::k,st=>.leaf (.back (qR k) st)
 | n+1,.code c::k,st=>match c with
  | .skip=>run pin n k st
  | .seq a b=>run pin n (.code a::.code b::k) st
  | .region _ ops false=>(opsX P Γ pin ops ops.toList st).bind fun st'=>force (kX st') (run pin n k)
  | .region _ ops true=>(anyX P Γ pin ops (2*ops.size+2) [] [] st).bind fun st'=>force (kX st') (run pin n k)
  | .cond (.tmp t) x y=>match st.tmps.getD t .undef with
   | .bool b=>.ite b (run pin n (.code x::k) st) (run pin n (.code y::k) st)
   | _=>.fail
  | .block id c=>run pin n (.code c::.inBlock id::k) st
  | .loop c=>.leaf (.loop c k st)
  | .rangeFunc g ps x y=>.leaf (.range (.rangeFunc g ps x y) k st)
  | .exit id=>match exitTo id k with
   | some k'=>run pin n k' st
   | none=>.fail
  | .ret=>.leaf (.ret st)
  | _=>.fail
end
end Go.Sx
end
section
namespace Go.Sx
variable [Stat]
open Go.RowKit (Below)
structure SE where
 ad:Option Addr
 n:Nat
def JT(w:World)(b:Nat)(g:Nat):Prop:=(Stat.z g).isSome=true∧w.cell? ⟨g,0,none⟩=some (.map (some b))
mutual
def Rep(own:Nat→Prop)(w:World):AV→List SE→Value→Prop
 | .undef,_,_=>True
 | .bool b,_,v=>v = .bool b
 | .int k n,_,v=>v = .int k n
 | .str s,_,v=>v = .string ⟨s.toArray⟩
 | .nils,_,v=>v = .slice none 0 0
 | .sl n sz get,_,v=>∃ a cap,v = .slice a n cap∧n≤cap∧(n=0∨∃ ad,a=some ad∧ad.spot=none ∧
   ∀ j o,j<n→o<sz→¬ own ad.block∧∃ c,w.cell? ⟨ad.block,ad.off+(j*sz+o),none⟩=some c∧c.oneCell'=true∧Rep own w (get j o) [] c)
 | .osl i sz off n,σ,v=>∃ e,σ[i]?=some e∧off+n≤e.n∧∃ a cap,v = .slice a n cap∧n≤cap ∧
   (cap=0∨∃ ad,e.ad=some ad∧a=some ⟨ad.block,ad.off+off*sz,none⟩ ∧
    ∃ cs el,w.heap[ad.block]?=some (.cells cs el (0,0))∧ad.off+(off+cap)*sz≤cs.size)
 | .ptr i off,σ,v=>∃ e ad,σ[i]?=some e∧e.ad=some ad∧v = .pointer (some ⟨ad.block,ad.off+off,none⟩)
 | .nilp,_,v=>v = .pointer none
 | .eptr i sz idx off,σ,v=>∃ e ad,σ[i]?=some e∧e.ad=some ad∧idx<e.n∧v = .pointer (some ⟨ad.block,ad.off+(idx*sz+off),none⟩)
 | .iptr m get,_,v=>∃ ad,v = .pointer (some ad)∧ad.spot=none ∧
   ∀ o,o<m→¬ own ad.block∧∃ c,w.cell? ⟨ad.block,ad.off+o,none⟩=some c∧Rep own w (get o) [] c
 | .gptr g,_,v=>v = .pointer (some ⟨g,0,none⟩)
 | .agg cs,σ,v=>∃ vs:List Value,v = .agg vs.toArray∧RepL own w cs σ vs
 | .tup cs,σ,v=>∃ vs:List Value,v = .tuple vs.toArray∧RepL own w cs σ vs
 | .fn f a b,σ,v=>∃ va vb:List Value,v = .func (.func f) va.toArray vb.toArray∧RepL own w a σ va∧RepL own w b σ vb
 | .nilf,_,v=>v = .nilFunc
 | .opt _ _ _,_,_=>True
 | .mp k ag sz ks has get,_,v=>∃ b es clock,v = .map (some b)∧¬ own b∧(∃ g,¬ own g∧JT w b g)∧w.heap[b]?=some (.map es clock) ∧
   ∀ n,(has n=false→Instr.findNow (.int k) (.int k n) es.toList 0=some none) ∧
    (has n=true→∃ i x,Instr.findNow (.int k) (.int k n) es.toList 0=some (some (i,x)) ∧
     match ag with
     | true=>∃ vs:List Value,x = .agg vs.toArray∧vs.length=sz∧∀ o,o<sz→∃ c,vs[o]?=some c∧Rep own w (get n o) [] c
     | false=>Rep own w (get n 0) [] x)
 | .omap i,σ,v=>∃ e ad,σ[i]?=some e∧e.ad=some ad∧v = .map (some ad.block)
def RepL(own:Nat→Prop)(w:World):List AV→List SE→List Value→Prop
 | [],_,vs=>vs=[]
 | a::l,σ,vs=>∃ v r,vs=v::r∧Rep own w a σ v∧RepL own w l σ r
end
def Own(O:Nat→Prop)(σ:List SE)(b:Nat):Prop:=O b∨∃ e∈σ,∃ ad,e.ad=some ad∧ad.block=b
structure wT(own:Nat→Prop)(w:World):Prop where
 at_:∀ (g:Nat) (a:AV),Stat.z g=some a→¬ own g∧∃ c,w.cell? ⟨g,0,none⟩=some c∧Rep own w a [] c∧∀ b,c = .map (some b)→b<w.heap.size
structure Good(O:Nat→Prop)(w:World)(σ:List SE):Prop where
 old:∀ b,O b→b<w.heap.size
 dis:∀ (i:Nat) (e:SE) (ad:Addr),σ[i]?=some e→e.ad=some ad→¬ O ad.block
 stat:wT (Own O σ) w
def scV:SK→Sc→AV
 | .inl k,.inl n=>.int k n
 | .inr false,.inr s=>.str s
 | .inr true,.inl n=>.bool (decide (n=1))
 | _,_=>.undef
def okSc:SK→Sc→Prop
 | .inl _,.inl _=>True
 | .inr false,.inr _=>True
 | .inr true,.inl n=>n=0∨n=1
 | _,_=>False
def qu:List SK→List Sc→Prop
 | [],[]=>True
 | k::ks,s::ss=>okSc k s∧qu ks ss
 | _,_=>False
def keyA(ag:Bool)(sh:List SK)(k:List Sc):AV:=bif ag then .agg (List.zipWith scV sh k) else scV (sh.headD (.inr false)) (k.headD (.inl 0))
def vW(own:Nat→Prop)(w:World)(ag:Bool)(sh:List SK)(get:List Sc→AV):List MapEntry→List (List Sc)→Prop
 | [],[]=>True
 | e::es,k::ks=>qu sh k∧Rep own w (keyA ag sh k) [] e.key∧Rep own w (get k) [] e.val∧vW own w ag sh get es ks
 | _,_=>False
structure jF(es:Array MapEntry)(clock:Nat)(l:List (List Sc))(pe:Option (List Sc×Int)):Prop where
 nd:(es.toList.map (·.born)).Nodup
 lt:∀ x∈es.toList,x.born<clock
 pend:∀ k st,pe=some (k,st)→∃ (i:Nat) (e:MapEntry),es[i]?=some e∧l[i]?=some k∧(e.born:Int)=st
def BRep(own:Nat→Prop)(w:World)(σ:List SE)(e:SE):Blk→Prop
 | .dead=>True
 | .map ag sh has get pe=>∃ ad es clock l,e.ad=some ad∧w.heap[ad.block]?=some (.map es clock)∧(ag=false→sh.length=1)∧(l.Nodup∧jF es clock l pe)∧(∀ k,has k=true↔k∈l)∧vW own w ag sh get es.toList l
 | .box cells=>∃ ad vs el,e.ad=some ad∧ad.off=0∧w.heap[ad.block]?=some (.cells (List.toArray vs) el (0,0))∧RepL own w cells σ vs
 | .arr n sz get=>e.n=n∧(n=0∨∃ ad cs el,e.ad=some ad∧w.heap[ad.block]?=some (.cells cs el (0,0))∧ad.off+n*sz≤cs.size ∧
   ∀ j o,j<n→o<sz→∃ c,cs[ad.off+(j*sz+o)]?=some c∧c.oneCell'=true∧Rep own w (get j o) [] c)
 | .arrI k n f=>e.n=n∧(n=0∨∃ ad cs el,e.ad=some ad∧w.heap[ad.block]?=some (.cells cs el (0,0))∧ad.off+n*1≤cs.size ∧
   ∀ j o,j<n→o<1→∃ c,cs[ad.off+(j*1+o)]?=some c∧c.oneCell'=true∧Rep own w (tgI k f j o) [] c)
 | .arrS n f=>e.n=n∧(n=0∨∃ ad cs el,e.ad=some ad∧w.heap[ad.block]?=some (.cells cs el (0,0))∧ad.off+n*1≤cs.size ∧
   ∀ j o,j<n→o<1→∃ c,cs[ad.off+(j*1+o)]?=some c∧c.oneCell'=true∧Rep own w (tgS f j o) [] c)
theorem vK{own:Nat→Prop}{w:World}{σ:List SE}{e:SE}{k:IntKind}{n:Nat}{f:Nat→Int} : BRep own w σ e (.arrI k n f)↔BRep own w σ e (.arr n 1 (tgI k f)):=by simp only [BRep]
theorem vQ{own:Nat→Prop}{w:World}{σ:List SE}{e:SE}{n:Nat}{f:Nat→List UInt8} : BRep own w σ e (.arrS n f)↔BRep own w σ e (.arr n 1 (tgS f)):=by simp only [BRep]
structure HRep(own:Nat→Prop)(w:World)(σ:List SE)(h:Heap):Prop where
 len:σ.length=h.length
 inj:∀ (i j:Nat) (e f:SE) (a b:Addr),σ[i]?=some e→σ[j]?=some f→e.ad=some a→f.ad=some b→i≠j→a.block≠b.block
 lt:∀ (i:Nat) (e:SE) (a:Addr),σ[i]?=some e→e.ad=some a→a.block<w.heap.size
 blk:∀ (i:Nat) (e:SE) (b:Blk),σ[i]?=some e→h[i]?=some b→BRep own w σ e b
structure Ext(own:Nat→Prop)(w:World)(own':Nat→Prop)(w':World):Prop where
 os:w'.os=w.os
 tape:w'.tape=w.tape
 output:w'.output=w.output
 size:w.heap.size≤w'.heap.size
 keep:∀ b,b<w.heap.size→¬ own b→w'.heap[b]?=w.heap[b]?
 grow:∀ b,own' b→own b∨w.heap.size≤b
theorem Ext.refl(own:Nat→Prop)(w:World):Ext own w own w:=⟨rfl,rfl,rfl,Nat.le_refl _,fun _ _ _=>rfl,fun _ h=>.inl h⟩
theorem Ext.trans{o1 o2 o3:Nat→Prop}{w1 w2 w3:World}(h:Ext o1 w1 o2 w2)(k:Ext o2 w2 o3 w3):Ext o1 w1 o3 w3 where
 os:=k.os.trans h.os
 tape:=k.tape.trans h.tape
 output:=k.output.trans h.output
 size:=Nat.le_trans h.size k.size
 keep b hb hn:=by
  rw [k.keep b (Nat.lt_of_lt_of_le hb h.size) (fun h2=>by
   rcases h.grow b h2 with h3 | h3
   ·exact hn h3
   ·omega)]
  exact h.keep b hb hn
 grow b hb:=by
  rcases k.grow b hb with h2 | h2
  ·exact h.grow b h2
  ·exact .inr (Nat.le_trans h.size h2)
theorem xz{w:World}{a:Addr}{c:Value}(h:w.cell? a=some c):a.block<w.heap.size:=by
 unfold World.cell? at h
 cases hb:w.heap[a.block]? with
 | none=>simp [hb] at h
 | some o=>exact(Array.getElem?_eq_some_iff.1 hb).1
theorem Ext.cell{o1 o2:Nat→Prop}{w1 w2:World}(h:Ext o1 w1 o2 w2){a:Addr}{c:Value}(hn:¬ o1 a.block)(hc:w1.cell? a=some c):w2.cell? a=some c:=by
 rw [← hc]
 exact World.cell?_of_block (h.keep a.block (xz hc) hn)
theorem Ext.yh{o1 o2:Nat→Prop}{w1 w2:World}(h:Ext o1 w1 o2 w2){b:Nat}(hb:b<w1.heap.size)(hn:¬ o1 b):¬ o2 b:=fun h2=>by
 rcases h.grow b h2 with h3 | h3
 ·exact hn h3
 ·omega
def Hold(K:List Nat)(w:World)(σ:List SE)(w':World)(σ':List SE):Prop:=
 ∀ (i:Nat) (e:SE),σ[i]?=some e→i∉K→σ'[i]?=some e∧∀ ad,e.ad=some ad→∀ cs el,w.heap[ad.block]?=some (.cells cs el (0,0)) →
  ∃ cs' el',w'.heap[ad.block]?=some (.cells cs' el' (0,0))∧cs'.size=cs.size
theorem Hold.refl(K:List Nat)(w:World)(σ:List SE):Hold K w σ w σ:=fun _ _ h _=>⟨h,fun _ _ cs el h=>⟨cs,el,h,rfl⟩⟩
mutual
def NoH(K:List Nat):AV→Prop
 | .osl i _ _ _=>i∉K
 | .ptr i _=>i∉K
 | .eptr i _ _ _=>i∉K
 | .omap i=>i∉K
 | .agg cs=>NoHL K cs
 | .tup cs=>NoHL K cs
 | .fn _ a b=>NoHL K a∧NoHL K b
 | _=>True
def NoHL(K:List Nat):List AV→Prop
 | []=>True
 | a::l=>NoH K a∧NoHL K l
end
section
variable {K:List Nat} {o1 o2:Nat→Prop} {w1 w2:World} {σ1 σ2:List SE}
mutual
theorem zj(hx:Ext o1 w1 o2 w2):∀ (a:AV) (v:Value),Rep o1 w1 a [] v→Rep o2 w2 a [] v
 | .undef,_,_=>by simp [Rep]
 | .bool b,v,h=>by simpa [Rep] using h
 | .int k n,v,h=>by simpa [Rep] using h
 | .str s,v,h=>by simpa [Rep] using h
 | .nils,v,h=>by simpa [Rep] using h
 | .sl n sz get,v,h=>by
  simp only [Rep] at h ⊢
  obtain⟨a,cap,hv,hle,hr⟩:=h
  refine⟨a,cap,hv,hle,?_⟩
  rcases hr with hr | ⟨ad,ha,hs,hr⟩
  ·exact .inl hr
  ·refine .inr ⟨ad,ha,hs,fun j o hj ho=> ?_⟩
   obtain⟨hn,c,hc,h1,hR⟩:=hr j o hj ho
   exact⟨hx.yh (xz (a:=⟨ad.block,_,none⟩) hc) hn,c,hx.cell (a:=⟨ad.block,_,none⟩) hn hc,h1,zj hx (get j o) c hR⟩
 | .osl i sz off n,v,h=>by simp [Rep] at h
 | .ptr i off,v,h=>by simp [Rep] at h
 | .nilp,v,h=>by simpa [Rep] using h
 | .eptr i sz idx off,v,h=>by simp [Rep] at h
 | .omap i,v,h=>by simp [Rep] at h
 | .iptr m get,v,h=>by
  simp only [Rep] at h ⊢
  obtain⟨ad,hv,hs,hr⟩:=h
  refine⟨ad,hv,hs,fun o ho=> ?_⟩
  obtain⟨hn,c,hc,hR⟩:=hr o ho
  exact⟨hx.yh (xz (a:=⟨ad.block,_,none⟩) hc) hn,c,hx.cell (a:=⟨ad.block,_,none⟩) hn hc,zj hx (get o) c hR⟩
 | .gptr g,v,h=>by simpa [Rep] using h
 | .agg cs,v,h=>by
  simp only [Rep] at h ⊢
  obtain⟨vs,hv,hr⟩:=h
  exact⟨vs,hv,wx hx cs vs hr⟩
 | .tup cs,v,h=>by
  simp only [Rep] at h ⊢
  obtain⟨vs,hv,hr⟩:=h
  exact⟨vs,hv,wx hx cs vs hr⟩
 | .fn f a b,v,h=>by
  simp only [Rep] at h ⊢
  obtain⟨va,vb,hv,hr,hr2⟩:=h
  exact⟨va,vb,hv,wx hx a va hr,wx hx b vb hr2⟩
 | .nilf,v,h=>by simpa [Rep] using h
 | .opt _ _ _,_,_=>by simp [Rep]
 | .mp k ag sz ks has get,v,h=>by
  simp only [Rep] at h ⊢
  obtain⟨b,es,clock,hv,hn,hlim,hb,hg⟩:=h
  have hlt:b<w1.heap.size:=(Array.getElem?_eq_some_iff.1 hb).1
  refine⟨b,es,clock,hv,hx.yh hlt hn,(by
   obtain⟨g,h1,h2,h3⟩:=hlim
   exact⟨g,hx.yh (xz (a:=⟨g,0,none⟩) h3) h1,h2,hx.cell (a:=⟨g,0,none⟩) h1 h3⟩),by rw [hx.keep b hlt hn]; exact hb,fun n=>⟨(hg n).1,fun h1=> ?_⟩⟩
  obtain⟨i,x,h2,h3⟩:=(hg n).2 h1
  refine⟨i,x,h2,?_⟩
  cases ag with
  | true=>
   obtain⟨vs,e1,e2,e3⟩:=h3
   exact⟨vs,e1,e2,fun o ho=>by
    obtain⟨c,g1,g2⟩:=e3 o ho
    exact⟨c,g1,zj hx (get n o) c g2⟩⟩
  | false=>exact zj hx (get n 0) x h3
theorem wx(hx:Ext o1 w1 o2 w2):∀ (l:List AV) (vs:List Value),RepL o1 w1 l [] vs→RepL o2 w2 l [] vs
 | [],vs,h=>by simpa [RepL] using h
 | a::l,vs,h=>by
  simp only [RepL] at h ⊢
  obtain⟨v,r,hv,h1,h2⟩:=h
  exact⟨v,r,hv,zj hx a v h1,wx hx l r h2⟩
end
mutual
theorem qa(hx:Ext o1 w1 o2 w2)(hh:Hold K w1 σ1 w2 σ2):∀ (a:AV) (v:Value),NoH K a→Rep o1 w1 a σ1 v→Rep o2 w2 a σ2 v
 | .undef,_,_,_=>by simp [Rep]
 | .bool b,v,_,h=>by simpa [Rep] using h
 | .int k n,v,_,h=>by simpa [Rep] using h
 | .str s,v,_,h=>by simpa [Rep] using h
 | .nils,v,_,h=>by simpa [Rep] using h
 | .sl n sz get,v,_,h=>by
  have:=zj hx (.sl n sz get) v (by simpa only [Rep] using h)
  simpa only [Rep] using this
 | .osl i sz off n,v,hK,h=>by
  simp only [Rep,NoH] at h hK ⊢
  obtain⟨e,he,hl,a,cap,hv,hc,hr⟩:=h
  obtain⟨h1,h2⟩:=hh i e he hK
  refine⟨e,h1,hl,a,cap,hv,hc,?_⟩
  rcases hr with hr | ⟨ad,ha,hb,cs,el,hcs,hsz⟩
  ·exact .inl hr
  ·obtain⟨cs',el',hcs',hsz'⟩:=h2 ad ha cs el hcs
   exact .inr ⟨ad,ha,hb,cs',el',hcs',by omega⟩
 | .ptr i off,v,hK,h=>by
  simp only [Rep,NoH] at h hK ⊢
  obtain⟨e,ad,he,ha,hv⟩:=h
  exact⟨e,ad,(hh i e he hK).1,ha,hv⟩
 | .nilp,v,_,h=>by simpa [Rep] using h
 | .eptr i sz idx off,v,hK,h=>by
  simp only [Rep,NoH] at h hK ⊢
  obtain⟨e,ad,he,ha,hl,hv⟩:=h
  exact⟨e,ad,(hh i e he hK).1,ha,hl,hv⟩
 | .omap i,v,hK,h=>by
  simp only [Rep,NoH] at h hK ⊢
  obtain⟨e,ad,he,ha,hv⟩:=h
  exact⟨e,ad,(hh i e he hK).1,ha,hv⟩
 | .iptr m get,v,_,h=>by
  have:=zj hx (.iptr m get) v (by simpa only [Rep] using h)
  simpa only [Rep] using this
 | .gptr g,v,_,h=>by simpa [Rep] using h
 | .agg cs,v,hK,h=>by
  simp only [Rep,NoH] at h hK ⊢
  obtain⟨vs,hv,hr⟩:=h
  exact⟨vs,hv,qq hx hh cs vs hK hr⟩
 | .tup cs,v,hK,h=>by
  simp only [Rep,NoH] at h hK ⊢
  obtain⟨vs,hv,hr⟩:=h
  exact⟨vs,hv,qq hx hh cs vs hK hr⟩
 | .fn f a b,v,hK,h=>by
  simp only [Rep,NoH] at h hK ⊢
  obtain⟨va,vb,hv,hr,hr2⟩:=h
  exact⟨va,vb,hv,qq hx hh a va hK.1 hr,qq hx hh b vb hK.2 hr2⟩
 | .nilf,v,_,h=>by simpa [Rep] using h
 | .opt _ _ _,_,_,_=>by simp [Rep]
 | .mp k ag sz ks has get,v,_,h=>by
  have:=zj hx (.mp k ag sz ks has get) v (by simpa only [Rep] using h)
  simpa only [Rep] using this
theorem qq(hx:Ext o1 w1 o2 w2)(hh:Hold K w1 σ1 w2 σ2):∀ (l:List AV) (vs:List Value),NoHL K l→RepL o1 w1 l σ1 vs→RepL o2 w2 l σ2 vs
 | [],vs,_,h=>by simpa [RepL] using h
 | a::l,vs,hK,h=>by
  simp only [RepL,NoHL] at h hK ⊢
  obtain⟨v,r,hv,h1,h2⟩:=h
  exact⟨v,r,hv,qa hx hh a v hK.1 h1,qq hx hh l r hK.2 h2⟩
end
theorem vW.ext(hx:Ext o1 w1 o2 w2){ag:Bool}{sh:List SK}{get:List Sc→AV} : ∀ {es:List MapEntry} {l:List (List Sc)},vW o1 w1 ag sh get es l→vW o2 w2 ag sh get es l
 | [],[],_=>trivial
 | e::es,k::ks,h=>⟨h.1,zj hx _ _ h.2.1,zj hx _ _ h.2.2.1,vW.ext hx h.2.2.2⟩
 | [],_::_,h=>h.elim
 | _::_,[],h=>h.elim
theorem wT.ext(h:wT o1 w1)(hx:Ext o1 w1 o2 w2):wT o2 w2:=⟨fun g a hz=>by
 obtain⟨h1,c,h2,h3,h4⟩:=h.at_ g a hz
 exact⟨hx.yh (xz (a:=⟨g,0,none⟩) h2) h1,c,hx.cell (a:=⟨g,0,none⟩) h1 h2,zj hx a _ h3,fun b hb=>Nat.lt_of_lt_of_le (h4 b hb) hx.size⟩⟩
theorem wT.own(h:wT o1 w1)(hs:∀ b,o2 b→o1 b):wT o2 w1:=h.ext ⟨rfl,rfl,rfl,Nat.le_refl _,fun _ _ _=>rfl,fun b hb=>.inl (hs b hb)⟩
end
end Go.Sx
end
section
namespace Go.Sx
variable [Stat]
theorem yx{α:Type}{l:List α}{o n j:Nat}{v:α}(h:((l.drop o).take n)[j]?=some v):l[o+j]?=some v∧j<n:=by
 simp only [List.getElem?_take,List.getElem?_drop] at h
 split at h
 ·rename_i hj; exact⟨h,hj⟩
 ·cases h
theorem J2{vs:List Value}(o n:Nat):vs.toArray.extract o (o+n)=((vs.drop o).take n).toArray:=by
 apply Array.ext'
 simp [List.extract_eq_drop_take',← List.drop_take]
namespace Tree
theorem zl{α β:Type}{f:α→Tree β}{Q:β→Prop} : ∀ {t:Tree α},(t.bind f).holds Q↔t.holds fun a=>(f a).holds Q
 | .leaf a=>Iff.rfl
 | .ite b t e=>by simp only [bind,holds,zl (t:=t),zl (t:=e)]
 | .side p t=>by simp only [bind,holds,zl (t:=t)]
 | .ex p k=>by simp only [bind,holds]; exact exists_congr fun n=>and_congr Iff.rfl zl
 | .all p k=>by simp only [bind,holds]; exact and_congr Iff.rfl (forall_congr' fun n=>imp_congr Iff.rfl zl)
 | .fail=>Iff.rfl
theorem zK{α:Type}{Q Q':α→Prop}(h:∀ a,Q a→Q' a):∀ {t:Tree α},t.holds Q→t.holds Q'
 | .leaf a,hq=>h a hq
 | .ite b t e,hq=>⟨fun hb=>zK h (hq.1 hb),fun hb=>zK h (hq.2 hb)⟩
 | .side p t,hq=>⟨hq.1,fun hp=>zK h (hq.2 hp)⟩
 | .ex p k,hq=>by obtain⟨n,h1,h2⟩:=hq; exact⟨n,h1,zK h h2⟩
 | .all p k,hq=>⟨hq.1,fun n hn=>zK h (hq.2 n hn)⟩
 | .fail,hq=>hq
theorem wA{α:Type} : ∀ {t:Tree α} {Q:α→Prop},t.holds Q→∃ a,Q a
 | .leaf a,Q,hq=>⟨a,hq⟩
 | .ite true t e,Q,hq=>wA (hq.1 rfl)
 | .ite false t e,Q,hq=>wA (hq.2 rfl)
 | .side p t,Q,hq=>wA (hq.2 hq.1)
 | .ex p k,Q,hq=>by
  obtain⟨n,_,h⟩:=hq
  exact wA h
 | .all p k,Q,hq=>by
  obtain⟨n,hn⟩:=hq.1
  exact wA (hq.2 n hn)
 | .fail,Q,hq=>hq.elim
end Tree
section
variable {own:Nat→Prop} {w:World} {σ:List SE}
theorem zq:∀ {l:List AV} {vs:List Value},RepL own w l σ vs↔vs.length=l.length∧∀ (i:Nat) a v,l[i]?=some a→vs[i]?=some v→Rep own w a σ v
 | [],vs=>by
  simp only [RepL]
  constructor
  ·rintro rfl; simp
  ·rintro⟨h,_⟩; simpa using h
 | a::l,vs=>by
  simp only [RepL]
  constructor
  ·rintro⟨v,r,rfl,h1,h2⟩
   obtain⟨h3,h4⟩:=zq.1 h2
   refine⟨by simp [h3],fun i x y hx hy=> ?_⟩
   cases i with
   | zero=>simp at hx hy; subst hx; subst hy; exact h1
   | succ i=>simp at hx hy; exact h4 i x y hx hy
  ·rintro⟨h1,h2⟩
   match vs,h1 with
   | v::r,h1=>
    refine⟨v,r,rfl,h2 0 a v (by simp) (by simp),zq.2 ⟨by simpa using h1,fun i x y hx hy=>h2 (i+1) x y (by simpa using hx) (by simpa using hy)⟩⟩
theorem RepL.length{l:List AV}{vs:List Value}(h:RepL own w l σ vs):vs.length=l.length:=(zq.1 h).1
theorem RepL.get{l:List AV}{vs:List Value}(h:RepL own w l σ vs){i:Nat}{a:AV}(ha:l[i]?=some a):∃ v,vs[i]?=some v∧Rep own w a σ v:=by
 have hl:=h.length
 have hi:i<vs.length:=by rw [hl]; exact(List.getElem?_eq_some_iff.1 ha).1
 exact⟨vs[i],by simp [hi],(zq.1 h).2 i a _ ha (by simp [hi])⟩
theorem RepL.cut{l:List AV}{vs:List Value}(h:RepL own w l σ vs)(o n:Nat):RepL own w ((l.drop o).take n) σ ((vs.drop o).take n):=by
 have hl:=h.length
 refine zq.2 ⟨by simp [hl],fun i a v ha hv=> ?_⟩
 simp only [List.getElem?_take,List.getElem?_drop] at ha hv
 split at ha
 ·simp_all only [ite_true]; exact(zq.1 h).2 _ a v ha hv
 ·cases ha
theorem RepL.app{l l':List AV}{vs vs':List Value}(h:RepL own w l σ vs)(h':RepL own w l' σ vs'):RepL own w (l++l') σ (vs++vs'):=by
 have hl:=h.length
 have hl':=h'.length
 refine zq.2 ⟨by simp [hl,hl'],fun i a v ha hv=> ?_⟩
 rw [List.getElem?_append] at ha hv
 split at ha
 ·rw [if_pos (by omega)] at hv; exact(zq.1 h).2 i a v ha hv
 ·rw [if_neg (by omega),hl] at hv; exact(zq.1 h').2 _ a v ha hv
theorem RepL.drp{l:List AV}{vs:List Value}(h:RepL own w l σ vs)(o:Nat):RepL own w (l.drop o) σ (vs.drop o):=by
 have:=h.cut o (l.length - o)
 rwa [List.take_of_length_le (by simp),List.take_of_length_le (by simp [h.length])] at this
theorem RepL.tak{l:List AV}{vs:List Value}(h:RepL own w l σ vs)(n:Nat):RepL own w (l.take n) σ (vs.take n):=by
 have:=h.cut 0 n
 simpa using this
mutual
theorem jb:∀ a:AV,NoH [] a
 | .osl .. =>by simp [NoH]
 | .ptr .. =>by simp [NoH]
 | .eptr .. =>by simp [NoH]
 | .agg cs=>by simp only [NoH]; exact jv cs
 | .tup cs=>by simp only [NoH]; exact jv cs
 | .fn _ a b=>by simp only [NoH]; exact⟨jv a,jv b⟩
 | .undef=>by simp [NoH]
 | .bool _=>by simp [NoH]
 | .int _ _=>by simp [NoH]
 | .str _=>by simp [NoH]
 | .nils=>by simp [NoH]
 | .sl .. =>by simp [NoH]
 | .nilp=>by simp [NoH]
 | .iptr .. =>by simp [NoH]
 | .gptr _=>by simp [NoH]
 | .nilf=>by simp [NoH]
 | .opt .. =>by simp [NoH]
 | .mp .. =>by simp [NoH]
 | .omap _=>by simp [NoH]
theorem jv:∀ l:List AV,NoHL [] l
 | []=>by simp [NoHL]
 | a::l=>by simp only [NoHL]; exact⟨jb a,jv l⟩
end
theorem Rep.any{a:AV}{v:Value}(h:Rep own w a [] v)(σ:List SE):Rep own w a σ v:=
 qa (K:=[]) (Ext.refl own w) (fun i e he=>by simp at he) a v (jb a) h
theorem RepL.any{a:List AV}{v:List Value}(h:RepL own w a [] v)(σ:List SE):RepL own w a σ v:=
 qq (K:=[]) (Ext.refl own w) (fun i e he=>by simp at he) a v (jv a) h
variable {P:Program}
theorem ku{t:TypeId}{a:Bool}(h:jf P t=some a):(isAgg t).run P w = .ok a w:=by
 unfold jf at h
 cases hu:P.underlying t with
 | none=>simp [hu] at h
 | some d=>
  simp only [isAgg,Sem.run_bind,run_underlying hu,Result.andThen_ok]
  cases d<;>simp_all
theorem zz{t:TypeId}{n:Nat}(h:zS P t=some n):(sizeOf t).run P w = .ok n w:=by
 unfold zS at h
 cases hi:P.info? t with
 | none=>simp [hi] at h
 | some i=>
  simp [hi] at h
  rw [run_sizeOf w hi,Program.cellsOf,hi]
  simp [h]
theorem kW{b:Bool}{cs:List AV}{vs:List Value}{Q:AV→Prop}(hr:RepL own w cs σ vs)(h:(jM b cs).holds Q) :
  ∃ r v,Q r∧Rep own w r σ v∧(b=true→v = .agg vs.toArray)∧(b=false→vs=[v]):=by
 unfold jM at h
 cases b with
 | true=>
  simp only [if_true,Tree.holds] at h
  exact⟨_,.agg vs.toArray,h,by simp only [Rep]; exact⟨vs,rfl,hr⟩,fun _=>rfl,(fun h=>by cases h)⟩
 | false=>
  simp only [Bool.false_eq_true,if_false] at h
  match cs,h with
  | [c],h=>
   simp only [RepL] at hr
   obtain⟨v,r,rfl,h1,rfl⟩:=hr
   exact⟨c,v,h,h1,(fun h=>by cases h),fun _=>rfl⟩
  | [],h=>exact h.elim
  | _::_::_,h=>exact h.elim
theorem jN{t:TypeId}{b:Bool}{n:Nat}{bl off:Nat}{cs:List AV}{vs:List Value}{Q:AV→Prop}(ht:jf P t=some b)(hn:zS P t=some n)
  (hl:vs.length=n) (hc:∀ j v,vs[j]?=some v→w.cell? ⟨bl,off+j,none⟩=some v) (hr:RepL own w cs σ vs) (h:(jM b cs).holds Q) :
  ∃ r v,(loadVar t ⟨bl,off,none⟩).run P w = .ok v w∧Q r∧Rep own w r σ v:=by
 obtain⟨r,v,hq,hR,h1,h2⟩:=kW hr h
 refine⟨r,v,?_,hq,hR⟩
 simp only [loadVar,Sem.run_bind,ku ht,Result.andThen_ok]
 have hadd:∀ j,(⟨bl,off,none⟩:Addr).add j=⟨bl,off+j,none⟩:=fun j=>by unfold Addr.add; split<;>simp_all
 cases b with
 | true=>
  have hld:=run_loadCells_list (P:=P) w ⟨bl,off,none⟩ vs (fun j v hv=>by rw [hadd]; exact hc j v hv)
  rw [hl] at hld
  simp only [if_true,Sem.run_bind,zz hn,Result.andThen_ok,hld,Sem.run_pure,h1 rfl]
 | false=>
  have:=h2 rfl
  subst this
  have:=hc 0 v (by simp)
  simp only [Nat.add_zero] at this
  simp [this]
theorem vB{b:Nat}{cs:Array Value}{el:TypeId}{fr:Nat×Nat}{o:Nat}{v:Value}(h:w.heap[b]?=some (.cells cs el fr))(hv:cs[o]?=some v):w.cell? ⟨b,o,none⟩=some v:=by
 simp [World.cell?,h,hv]
theorem yS{t:TypeId}{e:SE}{ad:Addr}{n' sz idx off n:Nat}{b:Bool}{g:Nat→Nat→AV}{Q:AV→Prop}(hblk:BRep own w σ e (.arr n' sz g))(had:e.ad=some ad)(hidx:idx<e.n)(ht:jf P t=some b)(hn:zS P t=some n)(hle:off+n≤sz)
  (hq:(jM b ((List.range n).map fun o=>g idx (off+o))).holds Q):∃ r v,(Instr.loadAt t (.pointer (some ⟨ad.block,ad.off+(idx*sz+off),none⟩))).run P w = .ok v w∧Q r∧Rep own w r σ v:=by
 simp only [BRep] at hblk
 obtain⟨hen,hz | ⟨ad',cs,el,had',hcs,hsz,hr⟩⟩:=hblk
 ·omega
 rw [had] at had'
 cases had'
 have hex:∀ o,o<n→∃ c,cs[ad.off+(idx*sz+off)+o]?=some c∧Rep own w (g idx (off+o)) [] c:=fun o ho=>by
  obtain⟨c,h1,_,h2⟩:=hr idx (off+o) (by omega) (by omega)
  exact⟨c,by rw [← h1]; congr 1; omega,h2⟩
 obtain⟨f,hf⟩:=Classical.axiomOfChoice (r:=fun(o:Nat) c=>o<n→cs[ad.off+(idx*sz+off)+o]?=some c∧Rep own w (g idx (off+o)) [] c)
  (fun o=>by
   by_cases ho:o<n
   ·obtain⟨c,hc⟩:=hex o ho; exact⟨c,fun _=>hc⟩
   ·exact⟨undef,fun h=>absurd h ho⟩)
 obtain⟨r,v,h1,h2,h3⟩:=jN (P:=P) (σ:=σ) (bl:=ad.block) (off:=ad.off+(idx*sz+off)) ht hn (vs:=(List.range n).map f) (by simp)
  (fun j v hv=>by
   simp only [List.getElem?_map,List.getElem?_range] at hv
   by_cases hj:j<n
   ·simp [hj] at hv; subst hv; exact vB hcs (hf j hj).1
   ·simp [hj] at hv)
  (cs:=(List.range n).map fun o=>g idx (off+o)) (zq.2 ⟨by simp,fun j a v ha hv=>by
   by_cases hj:j<n
   ·simp [hj] at ha hv; subst ha; subst hv; exact(hf j hj).2.any σ
   ·simp [hj] at ha⟩) hq
 refine⟨r,v,?_,h2,h3⟩
 simp only [Instr.loadAt,Instr.sureAddr,Sem.run_bind,Sem.run_pure,Result.andThen_ok]
 exact h1
theorem yE{h:Heap}(hh:HRep own w σ h){t:TypeId}{a:AV}{va:Value}{Q:AV→Prop}(ha:Rep own w a σ va)(hq:(yn P h t a).holds Q) :
  ∃ r v,(Instr.loadAt t va).run P w = .ok v w∧Q r∧Rep own w r σ v:=by
 cases a with
 | ptr i off=>
  simp only [Rep] at ha
  obtain⟨e,ad,he,had,rfl⟩:=ha
  simp only [yn] at hq
  split at hq
  ·rename_i cells b n hb ht hn
   split at hq
   ·rename_i hle
    obtain⟨ad',vs,el,had',h0,hcs,hr⟩:=hh.blk i e _ he hb
    rw [had] at had'
    cases had'
    have hlen:=hr.length
    obtain⟨r,v,h1,h2,h3⟩:=jN (P:=P) (bl:=ad.block) (off:=off) ht hn (vs:=(vs.drop off).take n) (by simp; omega)
     (fun j v hv=>vB hcs (by simpa using (yx hv).1)) (hr.cut off n) hq
    refine⟨r,v,?_,h2,h3⟩
    simp only [Instr.loadAt,Instr.sureAddr,Sem.run_bind,Sem.run_pure,Result.andThen_ok,h0,Nat.zero_add]
    exact h1
   ·exact hq.elim
  ·exact hq.elim
 | eptr i sz idx off=>
  simp only [Rep] at ha
  obtain⟨e,ad,he,had,hidx,rfl⟩:=ha
  simp only [yn] at hq
  split at hq
  ·rename_i n' sz' g b n hb ht hn
   split at hq
   ·rename_i hle
    obtain⟨rfl,hle⟩:=hle
    exact yS (hh.blk i e _ he hb) had hidx ht hn hle hq
   ·exact hq.elim
  ·rename_i k n' f hb ht hn
   split at hq
   ·rename_i hle
    obtain⟨rfl,rfl⟩:=hle
    exact yS (b:=false) (n:=1) (g:=tgI k f) (vK.1 (hh.blk i e _ he hb)) had hidx ht hn (Nat.le_refl _) hq
   ·exact hq.elim
  ·rename_i n' f hb ht hn
   split at hq
   ·rename_i hle
    obtain⟨rfl,rfl⟩:=hle
    exact yS (b:=false) (n:=1) (g:=tgS f) (vQ.1 (hh.blk i e _ he hb)) had hidx ht hn (Nat.le_refl _) hq
   ·exact hq.elim
  ·rename_i cells b n hb ht hn
   split at hq
   ·rename_i hle
    obtain⟨ad',vs,el,had',h0,hcs,hr⟩:=hh.blk i e _ he hb
    rw [had] at had'
    cases had'
    have hlen:=hr.length
    obtain⟨r,v,h1,h2,h3⟩:=jN (P:=P) (bl:=ad.block) (off:=idx*sz+off) ht hn (vs:=(vs.drop (idx*sz+off)).take n) (by simp; omega)
     (fun j v hv=>vB hcs (by simpa using (yx hv).1)) (hr.cut (idx*sz+off) n) hq
    refine⟨r,v,?_,h2,h3⟩
    simp only [Instr.loadAt,Instr.sureAddr,Sem.run_bind,Sem.run_pure,Result.andThen_ok,h0,Nat.zero_add]
    exact h1
   ·exact hq.elim
  ·exact hq.elim
 | iptr m g=>
  simp only [Rep] at ha
  obtain⟨ad,rfl,hs,hr⟩:=ha
  simp only [yn] at hq
  split at hq
  ·rename_i b n ht hn
   split at hq
   ·rename_i hle
    obtain⟨f,hf⟩:=Classical.axiomOfChoice (r:=fun(o:Nat) c=>o<n→w.cell? ⟨ad.block,ad.off+o,none⟩=some c∧Rep own w (g o) [] c)
     (fun o=>by
      by_cases ho:o<n
      ·obtain⟨_,c,hc⟩:=hr o (by omega); exact⟨c,fun _=>hc⟩
      ·exact⟨undef,fun h=>absurd h ho⟩)
    obtain⟨r,v,h1,h2,h3⟩:=jN (P:=P) (σ:=σ) (bl:=ad.block) (off:=ad.off) ht hn (vs:=(List.range n).map f) (by simp)
     (fun j v hv=>by
      by_cases hj:j<n
      ·simp [hj] at hv; subst hv; exact(hf j hj).1
      ·simp [hj] at hv)
     (cs:=(List.range n).map g) (zq.2 ⟨by simp,fun j a v ha hv=>by
      by_cases hj:j<n
      ·simp [hj] at ha hv; subst ha; subst hv; exact(hf j hj).2.any σ
      ·simp [hj] at ha⟩) hq
    refine⟨r,v,?_,h2,h3⟩
    have:ad=⟨ad.block,ad.off,none⟩:=by cases ad; simp_all
    simp only [Instr.loadAt,Instr.sureAddr,Sem.run_bind,Sem.run_pure,Result.andThen_ok]
    rw [this]
    exact h1
   ·exact hq.elim
  ·exact hq.elim
 | _=>exact hq.elim
end
end Go.Sx
end
section
namespace Go.Sx
variable [Stat]
theorem jT{k:IntKind}{n:Int}(h:inR k n):k.wrap n=n:=by
 unfold inR at h
 cases k<;>simp only [lo,hi] at h<;>simp [IntKind.wrap,IntKind.bits,IntKind.signed]<;>omega
section
variable {own:Nat→Prop} {w:World} {σ:List SE} {P:Program}
theorem add_plain{a:Addr}(h:a.spot=none)(n:Nat):a.add n=⟨a.block,a.off+n,none⟩:=by
 cases a; simp at h; subst h; unfold Addr.add; split<;>simp_all
theorem JP{d:Nat}{a:AV}{va:Value}{Q:AV→Prop}(ha:Rep own w a σ va)(hq:(WY d a).holds Q) :
  ∃ ad r,va = .pointer (some ad)∧ad.spot=none∧Q r∧Rep own w r σ (.pointer (some (ad.add d))):=by
 cases a with
 | ptr i off=>
  simp only [Rep] at ha
  obtain⟨e,ad,he,had,rfl⟩:=ha
  refine⟨_,_,rfl,rfl,hq,?_⟩
  simp only [Rep]
  exact⟨e,ad,he,had,by rw [add_plain rfl]; simp [Nat.add_assoc]⟩
 | eptr i sz idx off=>
  simp only [Rep] at ha
  obtain⟨e,ad,he,had,hl,rfl⟩:=ha
  refine⟨_,_,rfl,rfl,hq,?_⟩
  simp only [Rep]
  exact⟨e,ad,he,had,hl,by rw [add_plain rfl]; simp [Nat.add_assoc]⟩
 | iptr m g=>
  simp only [Rep] at ha
  obtain⟨ad,rfl,hs,hr⟩:=ha
  simp only [WY] at hq
  split at hq
  ·rename_i hle
   refine⟨_,_,rfl,hs,hq,?_⟩
   simp only [Rep]
   refine⟨_,rfl,by rw [add_plain hs],fun o ho=> ?_⟩
   obtain⟨h1,c,h2,h3⟩:=hr (d+o) (by omega)
   rw [add_plain hs]
   exact⟨h1,c,by simpa [Nat.add_assoc] using h2,by simpa [atG] using h3⟩
  ·exact hq.elim
 | _=>exact hq.elim
theorem kG{s:TypeId}{f o ft n:Nat}(h:km P s f=some (o,ft,n)) :
  ∃ fs fld,P.underlying s=some (.struct fs)∧fs[f]?=some fld∧fld.offset=o∧fld.type=ft∧zS P ft=some n∧n≠0:=by
 unfold km at h
 split at h
 ·rename_i fs hu
  split at h
  ·rename_i fld hf
   split at h
   ·rename_i i hi
    split at h
    ·cases h
    ·rename_i hz
     simp only [Option.some.injEq,Prod.mk.injEq] at h
     obtain⟨rfl,rfl,rfl⟩:=h
     exact⟨fs,fld,hu,hf,rfl,rfl,by simp [zS,hi],hz⟩
   ·cases h
  ·cases h
 ·cases h
theorem yv{t f:Nat}{o ft n:Nat}{a:AV}{va:Value}{Q:AV→Prop}(hf:km P t f=some (o,ft,n))(ha:Rep own w a σ va)(hq:(WY o a).holds Q) :
  ∃ r v,(Instr.fieldAt t va f).run P w = .ok v w∧Q r∧Rep own w r σ v:=by
 obtain⟨fs,fld,hu,hfl,rfl,rfl,hs,hz⟩:=kG hf
 obtain⟨ad,r,rfl,hsp,hQ,hR⟩:=JP ha hq
 refine⟨r,_,?_,hQ,hR⟩
 simp only [Instr.fieldAt,Sem.run_bind,run_underlying hu,Result.andThen_ok,hfl,Instr.sureAddr,Sem.run_pure,fieldPlace,zz hs,Sem.run_ite,if_neg hz]
theorem QI{t f:Nat}{a:AV}{va:Value}{Q:AV→Prop}(ha:Rep own w a σ va)(hq:(WJ P t f a).holds Q) :
  ∃ r v,(Instr.field t va f).run P w = .ok v w∧Q r∧Rep own w r σ v:=by
 cases a with
 | agg cs=>
  simp only [Rep] at ha
  obtain⟨vs,rfl,hr⟩:=ha
  simp only [WJ] at hq
  split at hq
  ·rename_i o ft n hf
   split at hq
   ·rename_i b hb
    split at hq
    ·rename_i hle
     obtain⟨fs,fld,hu,hfl,rfl,rfl,hs,hz⟩:=kG hf
     obtain⟨r,v,hQ,hR,h1,h2⟩:=kW (hr.cut fld.offset n) hq
     refine⟨r,v,?_,hQ,hR⟩
     simp only [Instr.field,Sem.run_bind,run_underlying hu,Result.andThen_ok,hfl,asAgg,Sem.run_pure,part,ku hb]
     cases b with
     | true=>
      simp only [if_true,Sem.run_bind,zz hs,Result.andThen_ok,Sem.run_pure,h1 rfl]
      congr 2
      apply Array.ext'
      simp [List.extract_eq_drop_take',← List.drop_take]
     | false=>
      have h3:=h2 rfl
      have h4:((vs.drop fld.offset).take n)[0]?=some v:=by rw [h3]; rfl
      have h5:=(yx h4).1
      simp only [Nat.add_zero] at h5
      simp [h5]
    ·exact hq.elim
   ·exact hq.elim
  ·exact hq.elim
 | _=>exact hq.elim
theorem uW{i:Nat}{a:AV}{va:Value}{Q:AV→Prop}(ha:Rep own w a σ va)(hq:(yW i a).holds Q) :
  ∃ r v,(Instr.extract va i).run P w = .ok v w∧Q r∧Rep own w r σ v:=by
 cases a with
 | tup cs=>
  simp only [Rep] at ha
  obtain⟨vs,rfl,hr⟩:=ha
  simp only [yW] at hq
  split at hq
  ·rename_i c hc
   obtain⟨v,hv,hR⟩:=hr.get hc
   exact⟨c,v,by simp [Instr.extract,hv],hq,hR⟩
  ·exact hq.elim
 | _=>exact hq.elim
theorem zb4(k:IntKind):hi k<2^k.bits:=by cases k<;>decide
theorem Ku{b:Nat}{x y:Int}(hx:0≤x)(hx2:x<2^b)(hy:0≤y)(hy2:y<2^b):(BitVec.ofInt b x &&& BitVec.ofInt b y).toNat=x.toNat &&& y.toNat:=by
 have e:((2^b:Nat):Int)=2^b:=by simp
 rw [BitVec.toNat_and,BitVec.toNat_ofInt,BitVec.toNat_ofInt,Int.emod_eq_of_lt hx (by rw [e]; exact hx2),Int.emod_eq_of_lt hy (by rw [e]; exact hy2)]
theorem ki{op:BinOp}{k k':IntKind}{x y:Int}{t:TypeId}{Q:AV→Prop}(hq:(uI op k x y).holds Q) :
  ∃ r v,(binOp op t (.int k x) (.int k' y)).run P w = .ok v w∧Q r∧Rep own w r σ v:=by
 cases op<;>simp only [uI,Tree.holds] at hq
 case shl=>
  obtain⟨h1,h2⟩:=hq
  have hm:min y.toNat k.bits=y.toNat:=Nat.min_eq_left (by omega)
  exact⟨_,.int k (x*2^y.toNat),by simp only [binOp,Op.shift,if_neg (show ¬ y<0 by omega),hm,jT h1.2.2,Sem.run_pure],h2 h1,by simp [Rep]⟩
 case shr=>
  obtain⟨h1,h2⟩:=hq
  have hm:min y.toNat k.bits=y.toNat:=Nat.min_eq_left (by omega)
  exact⟨_,.int k (x.fdiv (2^y.toNat)),by simp only [binOp,Op.shift,if_neg (show ¬ y<0 by omega),hm,Sem.run_pure],h2 h1,by simp [Rep]⟩
theorem Qd{op:BinOp}{k:IntKind}{x y:Int}{t:TypeId}{Q:AV→Prop}(hq:(JE op k x y).holds Q) :
  ∃ r v,(binOp op t (.int k x) (.int k y)).run P w = .ok v w∧Q r∧Rep own w r σ v:=by
 cases op<;>simp only [JE,Tree.holds] at hq
 case shl=>exact ki hq
 case shr=>exact ki hq
 case and=>
  obtain⟨⟨⟨h1,h2⟩,h3,h4⟩,h5⟩:=hq
  have hk:=zb4 k
  have e:=Ku (b:=k.bits) h1 (by omega) h3 (by omega)
  have hle:x.toNat &&& y.toNat≤x.toNat:=Nat.and_le_left
  have hlo:lo k≤0:=by cases k<;>decide
  refine⟨_,.int k ((x.toNat &&& y.toNat:Nat):Int),?_,h5 ⟨⟨h1,h2⟩,h3,h4⟩,by simp [Rep]⟩
  simp only [binOp,ne_eq,not_true,if_false,Op.intBits,Sem.run_pure,e]
  rw [jT ⟨by omega,by omega⟩]
 case add=>obtain⟨h1,h2⟩:=hq; exact⟨_,.int k (x+y),by simp [binOp,Op.intArith,jT h1],h2 h1,by simp [Rep]⟩
 case sub=>obtain⟨h1,h2⟩:=hq; exact⟨_,.int k (x - y),by simp [binOp,Op.intArith,jT h1],h2 h1,by simp [Rep]⟩
 case mul=>obtain⟨h1,h2⟩:=hq; exact⟨_,.int k (x*y),by simp [binOp,Op.intArith,jT h1],h2 h1,by simp [Rep]⟩
 case quo=>obtain⟨h1,h2⟩:=hq; exact⟨_,.int k (x.tdiv y),by simp [binOp,Op.intDiv,h1.1,jT h1.2],h2 h1,by simp [Rep]⟩
 case rem=>obtain⟨h1,h2⟩:=hq; exact⟨_,.int k (x.tmod y),by simp [binOp,Op.intDiv,h1],h2 h1,by simp [Rep]⟩
 case eql=>exact⟨_,_,by simp [binOp,Op.intCmp]; rfl,hq,by simp only [Rep]; congr 1⟩
 case neq=>exact⟨_,_,by simp [binOp,Op.intCmp]; rfl,hq,by simp only [Rep]; congr 1⟩
 case lss=>exact⟨_,_,by simp [binOp,Op.intCmp]; rfl,hq,by simp [Rep]⟩
 case leq=>exact⟨_,_,by simp [binOp,Op.intCmp]; rfl,hq,by simp [Rep]⟩
 case gtr=>exact⟨_,_,by simp [binOp,Op.intCmp]; rfl,hq,by simp [Rep]⟩
 case geq=>exact⟨_,_,by simp [binOp,Op.intCmp]; rfl,hq,by simp [Rep]⟩
theorem ZX{op:BinOp}{x y:List UInt8}{t:TypeId}{Q:AV→Prop}(hq:(JQ op x y).holds Q) :
  ∃ r v,(binOp op t (.string ⟨x.toArray⟩) (.string ⟨y.toArray⟩)).run P w = .ok v w∧Q r∧Rep own w r σ v:=by
 have he:(x == y)=decide (x=y):=by by_cases h:x=y<;>simp [h]
 cases op<;>simp only [JQ,Tree.holds] at hq
 case add=>
  obtain⟨h1,h2⟩:=hq
  refine⟨_,.string ⟨(x++y).toArray⟩,?_,h2 h1,by simp [Rep]⟩
  have hs:¬ ((((⟨x.toArray⟩:ByteArray).size+(⟨y.toArray⟩:ByteArray).size:Nat):Int)>IntKind.i64.max):=by
   have e1:(⟨x.toArray⟩:ByteArray).size=x.length:=by simp [ByteArray.size]
   have e2:(⟨y.toArray⟩:ByteArray).size=y.length:=by simp [ByteArray.size]
   rw [e1,e2]; simp [IntKind.max,IntKind.signed,IntKind.bits]; omega
  simp only [binOp,Op.stringOp,if_neg hs,Sem.run_pure]
  congr 2
 case eql=>exact⟨_,_,by simp [binOp,Op.stringOp]; rfl,hq,by simp only [Rep,he]⟩
 case neq=>exact⟨_,_,by simp [binOp,Op.stringOp]; rfl,hq,by simp only [Rep,he]⟩
 case lss=>exact⟨_,_,by simp [binOp,Op.stringOp]; rfl,hq,by simp [Rep]⟩
 case leq=>exact⟨_,_,by simp [binOp,Op.stringOp]; rfl,hq,by simp only [Rep,he]⟩
 case gtr=>exact⟨_,.bool (!(Op.bytesLess x y||decide (x=y))),by simp only [binOp,Op.stringOp,Sem.run_pure,ByteArray.toList_mk,he],hq,by simp only [Rep]⟩
 case geq=>exact⟨_,_,by simp [binOp,Op.stringOp]; rfl,hq,by simp [Rep]⟩
theorem run_equalIn_bool{t:TypeId}(hu:P.underlying t=some .bool)(d:Nat)(a b:Bool):(Op.equalIn (d+1) t (.bool a) (.bool b)).run P w = .ok (a == b) w:=by
 simp [Op.equalIn,run_underlying hu]
theorem run_equal_bool{t:TypeId}(hu:P.underlying t=some .bool)(a b:Bool):(Op.equal t (.bool a) (.bool b)).run P w = .ok (a == b) w:=run_equalIn_bool hu 9999 a b
theorem qQ{ft off:Nat}{vs:Array Value}{v:Value}(h:jf P ft=some false)(hv:vs[off]?=some v):(part ft vs off).run P w = .ok v w:=by
 simp only [part,Sem.run_bind,ku h,Result.andThen_ok,Bool.false_eq_true,if_false,hv,Sem.run_pure]
theorem qL{as bs:List AV}{va vb:Array Value}(d:Nat)(ha:RepL own w as σ va.toList)(hb:RepL own w bs σ vb.toList):∀ {fs:List Field} {r:Bool},jm P as bs fs=some r→(Op.eqFields (d+1) va vb fs).run P w = .ok r w
 | [],r,h=>by
  simp only [jm,Option.some.injEq] at h
  subst h; simp [Op.eqFields]
 | f::fs,r,h=>by
  simp only [jm] at h
  simp only [Op.eqFields]
  split at h
  ·rename_i hn
   rw [if_pos hn]
   split at h
   ·rename_i k x k1 k2 y hg hu h1 h2
    split at h
    ·rename_i hk
     subst hk
     split at h
     ·rename_i r' hr
      simp only [Option.some.injEq] at h
      obtain⟨u,hu1,hu2⟩:=ha.get h1
      obtain⟨u',hu3,hu4⟩:=hb.get h2
      simp only [Rep] at hu2 hu4
      subst hu2; subst hu4
      simp only [Sem.run_bind,qQ hg (by simpa using hu1),qQ hg (by simpa using hu3),Result.andThen_ok,run_equalIn_int _ _ _ _ _ _ _ hu]
      have ih:=qL d ha hb hr
      subst h
      by_cases hxy:k1=y
      ·subst hxy; simp [ih]
      ·simp [hxy]
     ·cases h
    ·cases h
   ·rename_i x y hg hu h1 h2
    split at h
    ·rename_i r' hr
     simp only [Option.some.injEq] at h
     obtain⟨u,hu1,hu2⟩:=ha.get h1
     obtain⟨u',hu3,hu4⟩:=hb.get h2
     simp only [Rep] at hu2 hu4
     subst hu2; subst hu4
     simp only [Sem.run_bind,qQ hg (by simpa using hu1),qQ hg (by simpa using hu3),Result.andThen_ok,run_equalIn_string _ _ _ _ _ hu]
     have ih:=qL d ha hb hr
     subst h
     by_cases hxy:x=y
     ·subst hxy; simp [ih]
     ·simp [hxy]
    ·cases h
   ·rename_i x y hg hu h1 h2
    split at h
    ·rename_i r' hr
     simp only [Option.some.injEq] at h
     obtain⟨u,hu1,hu2⟩:=ha.get h1
     obtain⟨u',hu3,hu4⟩:=hb.get h2
     simp only [Rep] at hu2 hu4
     subst hu2; subst hu4
     simp only [Sem.run_bind,qQ hg (by simpa using hu1),qQ hg (by simpa using hu3),Result.andThen_ok,run_equalIn_bool hu]
     have ih:=qL d ha hb hr
     subst h
     cases x<;>cases y<;>simp [ih]
    ·cases h
   ·cases h
  ·rename_i hn
   rw [if_neg hn]
   exact qL d ha hb h
theorem xq{op:BinOp}{t:TypeId}{x y:Operand}{n cap:Nat}{p:Option Addr}{Q:AV→Prop}(hq:(y1 P op t n).holds Q)(hp:0<n→p.isNone=false) :
  ∃ r v,(do eqGuard op t x y (.slice p n cap) (.slice none 0 0); binOp op t (.slice p n cap) (.slice none 0 0):Sem Value).run P w = .ok v w∧Q r∧Rep own w r σ v:=by
 simp only [y1] at hq
 split at hq
 ·rename_i e hu
  have hrun:∀ d,(Op.equalIn (d+1) t (.slice p n cap) (.slice none 0 0)).run P w = .ok p.isNone w:=fun d=>by cases p<;>simp [Op.equalIn,run_underlying hu]
  split at hq
  ·refine⟨_,.bool p.isNone,?_,hq.2 p.isNone hp,by simp [Rep]⟩
   rw [Sem.run_bind]
   simp only [eqGuard,binOp]
   simp [Op.equal,Op.maxDepth,hrun 9999]
  ·refine⟨_,.bool (!p.isNone),?_,hq.2 (!p.isNone) (fun h=>by rw [hp h]; rfl),by simp [Rep]⟩
   rw [Sem.run_bind]
   simp only [eqGuard,binOp]
   simp [Op.equal,Op.maxDepth,hrun 9999]
  ·exact hq.elim
 ·exact hq.elim
theorem VT{op:BinOp}{t:TypeId}{x y:Operand}{a b:AV}{va vb:Value}{Q:AV→Prop}(ha:Rep own w a σ va)(hb:Rep own w b σ vb)(hq:(binX P op t a b).holds Q) :
  ∃ r v,(do eqGuard op t x y va vb; binOp op t va vb:Sem Value).run P w = .ok v w∧Q r∧Rep own w r σ v:=by
 cases a with
 | int k n=>
  cases b with
  | int k' n'=>
   simp only [Rep] at ha hb
   subst ha; subst hb
   simp only [binX] at hq
   split at hq
   ·rename_i hk; subst hk
    obtain⟨r,v,h1,h2⟩:=Qd (P:=P) (own:=own) (w:=w) (σ:=σ) (t:=t) hq
    refine⟨r,v,?_,h2⟩
    rw [Sem.run_bind]
    cases op<;>simp [eqGuard]<;>exact h1
   ·obtain⟨r,v,h1,h2⟩:=ki (P:=P) (own:=own) (w:=w) (σ:=σ) (t:=t) (k':=k') hq
    refine⟨r,v,?_,h2⟩
    rw [Sem.run_bind]
    cases op<;>first | exact hq.elim | (simp [eqGuard]<;>exact h1)
  | _=>exact hq.elim
 | str s=>
  cases b with
  | str s'=>
   simp only [Rep] at ha hb
   subst ha; subst hb
   obtain⟨r,v,h1,h2⟩:=ZX (P:=P) (own:=own) (w:=w) (σ:=σ) (t:=t) hq
   refine⟨r,v,?_,h2⟩
   rw [Sem.run_bind]
   cases op<;>simp [eqGuard]<;>exact h1
  | _=>exact hq.elim
 | bool p=>
  cases b with
  | bool p'=>
   simp only [Rep] at ha hb
   subst ha; subst hb
   simp only [binX] at hq
   split at hq
   ·rename_i hu
    exact⟨_,.bool (p == p'),by simp only [eqGuard,binOp,Sem.run_bind,run_equal_bool hu,Result.andThen_ok,Sem.run_pure]; rfl,hq,by simp [Rep]⟩
   ·rename_i hu
    exact⟨_,.bool (!(p == p')),by simp only [eqGuard,binOp,Sem.run_bind,run_equal_bool hu,Result.andThen_ok,Sem.run_pure]; rfl,hq,by simp [Rep]⟩
   ·exact hq.elim
  | _=>exact hq.elim
 | agg as=>
  cases b with
  | agg bs=>
   simp only [Rep] at ha hb
   obtain⟨vs,rfl,hr⟩:=ha
   obtain⟨us,rfl,hs⟩:=hb
   simp only [binX] at hq
   split at hq
   ·rename_i fs hu
    split at hq
    ·rename_i hg
     split at hq
     ·rename_i r he
      have hfs:P.fieldsOf t=fs:=by simp [Program.fieldsOf,hu]
      have hrun:=qL (w:=w) (va:=vs.toArray) (vb:=us.toArray) 9998 (by simpa using hr) (by simpa using hs) he
      have heq:(Op.equalIn 10000 t (.agg vs.toArray) (.agg us.toArray)).run P w = .ok r w:=by
       rw [run_equalIn_struct w 9999 t vs.toArray us.toArray (by rw [hfs]; exact hu) hg.1,hfs]; exact hrun
      rw [Sem.run_bind,run_eqGuard_agg w op t x y vs.toArray us.toArray hg.2,Result.andThen_ok]
      split at hq
      ·exact⟨_,.bool r,by rw [run_eql_struct,heq]; rfl,hq,by simp [Rep]⟩
      ·exact⟨_,.bool (!r),by rw [run_neq_struct,heq]; rfl,hq,by simp [Rep]⟩
      ·exact hq.elim
     ·exact hq.elim
    ·exact hq.elim
   ·exact hq.elim
  | _=>exact hq.elim
 | sl n sz g=>
  cases b with
  | nils=>
   simp only [Rep] at ha hb
   subst hb
   obtain⟨p,cap,rfl,hle,hr⟩:=ha
   refine xq hq fun h0=> ?_
   rcases hr with hr | ⟨ad,rfl,_⟩
   ·omega
   ·rfl
  | _=>exact hq.elim
 | osl i sz off n=>
  cases b with
  | nils=>
   simp only [Rep] at ha hb
   subst hb
   obtain⟨e,_,_,p,cap,rfl,hle,hr⟩:=ha
   refine xq hq fun h0=> ?_
   rcases hr with hr | ⟨ad,_,rfl,_⟩
   ·omega
   ·rfl
  | _=>exact hq.elim
 | _=>exact hq.elim
theorem Yg{op:UnOp}{a:AV}{va:Value}{Q:AV→Prop}(ha:Rep own w a σ va)(hq:(unX op a).holds Q) :
  ∃ r v,(Op.unary op va).run P w = .ok v w∧Q r∧Rep own w r σ v:=by
 cases a with
 | bool b=>
  simp only [Rep] at ha; subst ha
  simp only [unX] at hq
  split at hq
  ·exact⟨_,_,by simp [Op.unary]; rfl,hq,by simp [Rep]⟩
  ·exact hq.elim
 | int k n=>
  simp only [Rep] at ha; subst ha
  simp only [unX] at hq
  split at hq
  ·obtain⟨h1,h2⟩:=hq
   exact⟨_,_,by simp [Op.unary,Op.intArith,jT h1]; rfl,h2 h1,by simp [Rep]⟩
  ·exact hq.elim
 | _=>exact hq.elim
theorem VL{t:TypeId}{ty:TypeId}{a:AV}{va:Value}{Q:AV→Prop}(ha:Rep own w a σ va)(hq:(lenX P t a).holds Q) :
  ∃ r v,(Builtin.len_ #[t] ty #[va]).run P w = .ok v w∧Q r∧Rep own w r σ v:=by
 cases a with
 | str s=>
  simp only [Rep] at ha; subst ha
  simp only [lenX] at hq
  split at hq
  ·rename_i hu
   exact⟨_,_,by simp [Builtin.len_,run_underlying hu,goInt]; rfl,hq,by simp [Rep,ByteArray.size]⟩
  ·exact hq.elim
 | nils=>
  simp only [Rep] at ha; subst ha
  simp only [lenX] at hq
  split at hq
  ·rename_i hu
   exact⟨_,_,by simp [Builtin.len_,run_underlying hu,goInt]; rfl,hq,by simp [Rep]⟩
  ·exact hq.elim
 | sl n sz g=>
  simp only [Rep] at ha
  obtain⟨a,cap,rfl,_⟩:=ha
  simp only [lenX] at hq
  split at hq
  ·rename_i hu
   exact⟨_,_,by simp [Builtin.len_,run_underlying hu,goInt]; rfl,hq,by simp [Rep]⟩
  ·exact hq.elim
 | osl i sz off n=>
  simp only [Rep] at ha
  obtain⟨e,he,hl,a,cap,rfl,_⟩:=ha
  simp only [lenX] at hq
  split at hq
  ·rename_i hu
   exact⟨_,_,by simp [Builtin.len_,run_underlying hu,goInt]; rfl,hq,by simp [Rep]⟩
  ·exact hq.elim
 | _=>exact hq.elim
theorem wo{s:Bool}{n cap:Nat}{l h:Option AV}{vl vh:Option Value}{Q:Nat×Nat→Prop}
  (hl:∀ a,l=some a→∃ v,vl=some v∧Rep own w a σ v) (hl0:l=none→vl=none) (hh:∀ a,h=some a→∃ v,vh=some v∧Rep own w a σ v) (hh0:h=none→vh=none)
  (hc:n≤cap) (hq:(xn n l h).holds Q) :
  ∃ a b,(Instr.sliceBounds s n cap vl vh none).run P w = .ok (a,b,cap) w∧Q (a,b)∧a≤b∧b≤n:=by
 cases l with
 | none=>
  rw [hl0 rfl]
  cases h with
  | none=>
   rw [hh0 rfl]
   exact⟨0,n,by simp [Instr.sliceBounds],hq,by omega,by omega⟩
  | some b=>
   obtain⟨v,rfl,hv⟩:=hh b rfl
   cases b<;>try exact hq.elim
   rename_i k m
   simp only [Rep] at hv; subst hv
   obtain⟨h1,h2⟩:=hq
   refine⟨0,m.toNat,?_,h2 h1,by omega,by omega⟩
   have:0≤m∧m≤cap:=by omega
   simp [Instr.sliceBounds,Instr.sliceBound,asIntOf,this]
 | some a=>
  obtain⟨va,rfl,hva⟩:=hl a rfl
  cases h with
  | none=>
   rw [hh0 rfl]
   cases a<;>try exact hq.elim
   rename_i k m
   simp only [Rep] at hva; subst hva
   obtain⟨h1,h2⟩:=hq
   refine⟨m.toNat,n,?_,h2 h1,by omega,by omega⟩
   simp [Instr.sliceBounds,Instr.sliceBound,asIntOf,h1]
  | some b=>
   obtain⟨v,rfl,hv⟩:=hh b rfl
   cases a<;>try exact hq.elim
   rename_i k m
   cases b<;>try exact hq.elim
   rename_i k' m'
   simp only [Rep] at hva hv; subst hva; subst hv
   obtain⟨h1,h2⟩:=hq
   refine⟨m.toNat,m'.toNat,?_,h2 h1,by omega,by omega⟩
   have e1:0≤m'∧m'≤cap:=by omega
   have e2:0≤m∧m≤(m'.toNat:Int):=by omega
   simp [Instr.sliceBounds,Instr.sliceBound,asIntOf,e1,e2]
   intro h; omega
end
end Go.Sx
end
section
namespace Go.Sx
variable [Stat]
section
variable {own:Nat→Prop} {w:World} {σ:List SE} {P:Program}
theorem Vg{ρ:Operand→AV}{ρc:Operand→Value}(h:∀ x,Rep own w (ρ x) σ (ρc x))(l:Option Operand) :
  (∀ a,l.map ρ=some a→∃ v,l.map ρc=some v∧Rep own w a σ v)∧(l.map ρ=none→l.map ρc=none):=by
 cases l with
 | none=>exact⟨fun a h=>by simp at h,fun _=>rfl⟩
 | some x=>exact⟨fun a ha=>by simp at ha; subst ha; exact⟨_,rfl,h x⟩,fun h=>by simp at h⟩
theorem QO{t:TypeId}{ρ:Operand→AV}{ρc:Operand→Value}(hρ:∀ x,Rep own w (ρ x) σ (ρc x)){l h:Option Operand}{a:AV}{va:Value}{Q:AV→Prop}
  (ha:Rep own w a σ va) (hq:(xD P t (l.map ρ) (h.map ρ) a).holds Q) :
  ∃ r v,(Instr.sliceAt t va (l.map ρc) (h.map ρc) none).run P w = .ok v w∧Q r∧Rep own w r σ v:=by
 obtain⟨l1,l2⟩:=Vg hρ l
 obtain⟨h1,h2⟩:=Vg hρ h
 cases a with
 | str s=>
  simp only [Rep] at ha; subst ha
  simp only [xD] at hq
  split at hq
  ·rename_i hu
   obtain⟨x,y,e1,e2,e3,e4⟩:=wo (P:=P) (s:=false) (cap:=s.length) l1 l2 h1 h2 (Nat.le_refl _) (Tree.zl.1 hq)
   refine⟨_,_,?_,e2,rfl⟩
   have es:(⟨s.toArray⟩:ByteArray).size=s.length:=by simp [ByteArray.size]
   simp only [Instr.sliceAt,Sem.run_bind,run_underlying hu,Result.andThen_ok,Instr.slice,es]
   simp only [Option.isSome,Bool.false_eq_true,if_false,Sem.run_bind,Sem.run_pure,Result.andThen_ok,e1]
   congr 2
   apply ByteArray.ext
   apply Array.ext'
   rw [List.drop_take]
   simp [List.extract_eq_drop_take']
  ·exact hq.elim
 | nils=>
  simp only [Rep] at ha; subst ha
  simp only [xD] at hq
  split at hq
  ·rename_i e hu
   split at hq
   ·rename_i hs
    obtain⟨n,hs⟩:=Option.isSome_iff_exists.1 hs
    obtain⟨x,y,e1,e2,e3,e4⟩:=wo (P:=P) (s:=true) (cap:=0) l1 l2 h1 h2 (Nat.le_refl _) (Tree.zl.1 hq)
    have hx:x=0:=by omega
    have hy:y=0:=by omega
    subst hx; subst hy
    refine⟨_,.slice none 0 0,?_,e2,by simp [Rep]⟩
    simp only [Instr.sliceAt,Sem.run_bind,run_underlying hu,Result.andThen_ok,Instr.slice,e1,zz hs,Sem.run_pure]
    simp
   ·exact hq.elim
  ·exact hq.elim
 | sl n sz g=>
  simp only [Rep] at ha
  obtain⟨ad,cap,rfl,hc,hr⟩:=ha
  simp only [xD] at hq
  split at hq
  ·rename_i e hu
   split at hq
   ·rename_i hs
    obtain⟨x,y,e1,e2,e3,e4⟩:=wo (P:=P) (s:=true) (cap:=cap) l1 l2 h1 h2 hc (Tree.zl.1 hq)
    refine⟨_,.slice (if cap=x then ad else ad.map (·.add (x*sz))) (y - x) (cap - x),?_,e2,?_⟩
    ·simp only [Instr.sliceAt,Sem.run_bind,run_underlying hu,Result.andThen_ok,Instr.slice,e1,zz hs,Sem.run_pure]
    ·simp only [Rep]
     refine⟨_,_,rfl,by omega,?_⟩
     by_cases hz:y - x=0
     ·exact .inl hz
     ·rcases hr with hr | ⟨ad',rfl,hsp,hr⟩
      ·omega
      ·right
       rw [if_neg (by omega)]
       refine⟨ad'.add (x*sz),rfl,by rw [add_plain hsp],fun j o hj ho=> ?_⟩
       obtain⟨h3,c,h4,h5⟩:=hr (x+j) o (by omega) ho
       rw [add_plain hsp]
       refine⟨h3,c,?_,h5⟩
       rw [← h4]
       dsimp only
       congr 2
       rw [Nat.add_mul]
       omega
   ·exact hq.elim
  ·exact hq.elim
 | osl i sz off n=>
  simp only [Rep] at ha
  obtain⟨e0,he0,hl0,ad,cap,rfl,hc,hr⟩:=ha
  simp only [xD] at hq
  split at hq
  ·rename_i e hu
   split at hq
   ·rename_i hs
    obtain⟨x,y,e1,e2,e3,e4⟩:=wo (P:=P) (s:=true) (cap:=cap) l1 l2 h1 h2 hc (Tree.zl.1 hq)
    refine⟨_,.slice (if cap=x then ad else ad.map (·.add (x*sz))) (y - x) (cap - x),?_,e2,?_⟩
    ·simp only [Instr.sliceAt,Sem.run_bind,run_underlying hu,Result.andThen_ok,Instr.slice,e1,zz hs,Sem.run_pure]
    ·simp only [Rep]
     refine⟨e0,he0,by omega,_,_,rfl,by omega,?_⟩
     by_cases hz:cap - x=0
     ·exact .inl hz
     ·rcases hr with hr | ⟨ad',ha',rfl,cs,el,hcs,hsz⟩
      ·omega
      ·right
       rw [if_neg (by omega)]
       refine⟨ad',ha',?_,cs,el,hcs,?_⟩
       ·simp only [Option.map]
        rw [add_plain rfl]
        simp only [Nat.add_mul,Nat.add_assoc]
       ·have:off+x+(cap - x)=off+cap:=by omega
        rw [this]; exact hsz
   ·exact hq.elim
  ·exact hq.elim
 | _=>exact hq.elim
theorem Qy{t:TypeId}{ρ:Operand→AV}{ρc:Operand→Value}(hρ:∀ x,Rep own w (ρ x) σ (ρc x)){l:Option Operand}{h m:Operand}{a:AV}{va:Value}{Q:AV→Prop}
  (ha:Rep own w a σ va) (hq:(ZU P t (l.map ρ) (ρ h) (ρ m) a).holds Q) :
  ∃ r v,(Instr.sliceAt t va (l.map ρc) (some (ρc h)) (some (ρc m))).run P w = .ok v w∧Q r∧Rep own w r σ v:=by
 have hh:=hρ h
 have hm:=hρ m
 cases a with
 | sl n sz g=>
  simp only [Rep] at ha
  obtain⟨ad,cap,rfl,hc,hr⟩:=ha
  simp only [ZU] at hq
  generalize ρ h=x at hh hq
  generalize ρ m=y at hm hq
  generalize ρc h=vh at hh ⊢
  generalize ρc m=vm at hm ⊢
  split at hq
  ·rename_i e k1 h1 k2 m1 hu
   simp only [Rep] at hh hm
   subst hh; subst hm
   split at hq
   ·rename_i hs
    have key:∀ (z:Nat) (lv:Option Value),((lv=none∧z=0)∨∃ (k:IntKind) (i:Int),lv=some (.int k i)∧0≤i∧i≤h1∧z=i.toNat)→0≤h1→h1≤m1→m1≤n→∃ v,(Instr.sliceAt t (.slice ad n cap) lv (some (.int k1 h1)) (some (.int k2 m1))).run P w = .ok v w∧Rep own w (.sl (h1.toNat - z) sz (zg g z)) σ v:=by
     intro z lv hlo g1 g2 g3
     have hz:z≤h1.toNat:=by rcases hlo with ⟨_,h⟩ | ⟨_,i,_,a,b,h⟩<;>omega
     have e1:(Instr.sliceBounds true n cap lv (some (.int k1 h1)) (some (.int k2 m1))).run P w = .ok (z,h1.toNat,m1.toNat) w:=by
      have a1:0≤m1∧m1≤(cap:Int):=by omega
      have a2:h1≤max m1 0:=by omega
      rcases hlo with ⟨rfl,rfl⟩ | ⟨k,i,rfl,b1,b2,rfl⟩
      ·simp [Instr.sliceBounds,Instr.sliceBound,asIntOf,a1,a2,g1]; try omega
      ·have a3:0≤i∧i≤((h1.toNat:Nat):Int):=by omega
       simp [Instr.sliceBounds,Instr.sliceBound,asIntOf,a1,a2,a3,g1,b1]; try omega
     refine⟨.slice (if m1.toNat=z then ad else ad.map (·.add (z*sz))) (h1.toNat - z) (m1.toNat - z),?_,?_⟩
     ·simp only [Instr.sliceAt,Sem.run_bind,run_underlying hu,Result.andThen_ok,Instr.slice,e1,zz hs,Sem.run_pure]
     ·simp only [Rep]
      refine⟨_,_,rfl,by omega,?_⟩
      by_cases hz0:h1.toNat - z=0
      ·exact .inl hz0
      ·rcases hr with hr | ⟨ad',rfl,hsp,hr⟩
       ·omega
       ·right
        rw [if_neg (by omega)]
        refine⟨ad'.add (z*sz),rfl,by rw [add_plain hsp],fun j o hj ho=> ?_⟩
        obtain⟨h3,c,h4,h5⟩:=hr (z+j) o (by omega) ho
        rw [add_plain hsp]
        refine⟨h3,c,?_,h5⟩
        rw [← h4]
        dsimp only
        congr 2
        rw [Nat.add_mul]
        omega
    cases l with
    | none=>
     obtain⟨⟨g1,g2,g3⟩,hq⟩:=hq
     obtain⟨v,e1,e2⟩:=key 0 none (.inl ⟨rfl,rfl⟩) g1 g2 g3
     exact⟨_,v,e1,hq ⟨g1,g2,g3⟩,by simpa using e2⟩
    | some lo=>
     have hlo:=hρ lo
     simp only [Option.map_some] at hq ⊢
     generalize ρ lo=z at hlo hq
     generalize ρc lo=vz at hlo ⊢
     cases z with
     | int k i=>
      simp only [Rep] at hlo
      subst hlo
      obtain⟨⟨g0,g1,g2,g3⟩,hq⟩:=hq
      obtain⟨v,e1,e2⟩:=key i.toNat (some (.int k i)) (.inr ⟨k,i,rfl,g0,g1,rfl⟩) (by omega) g2 g3
      exact⟨_,v,e1,hq ⟨g0,g1,g2,g3⟩,e2⟩
     | _=>exact hq.elim
   ·exact hq.elim
  ·exact hq.elim
 | _=>exact hq.elim
theorem Za{t:TypeId}{a i:AV}{va vi:Value}{Q:AV→Prop}(ha:Rep own w a σ va)(hi:Rep own w i σ vi)(hq:(kg P t i a).holds Q) :
  ∃ r v,(Instr.indexAt t va vi).run P w = .ok v w∧Q r∧Rep own w r σ v:=by
 cases a with
 | sl n sz g=>
  simp only [Rep] at ha
  obtain⟨ad,cap,rfl,hc,hr⟩:=ha
  simp only [kg] at hq
  split at hq
  ·rename_i e k m hu
   simp only [Rep] at hi; subst hi
   split at hq
   ·rename_i hs
    obtain⟨hb,hq⟩:=hq
    have hq:=hq hb
    rcases hr with hr | ⟨ad',rfl,hsp,hr⟩
    ·omega
    refine⟨_,.pointer (some (ad'.add (m.toNat*sz))),?_,hq,?_⟩
    ·simp only [Instr.indexAt,Sem.run_bind,asIntOf,Sem.run_pure,Result.andThen_ok,run_underlying hu,hb,and_self,if_true,zz hs]
    ·simp only [Rep]
     refine⟨_,rfl,by rw [add_plain hsp],fun o ho=> ?_⟩
     obtain⟨h3,c,h4,_,h5⟩:=hr m.toNat o (by omega) ho
     rw [add_plain hsp]
     exact⟨h3,c,by rw [← h4]; simp [Nat.add_assoc],h5⟩
   ·exact hq.elim
  ·exact hq.elim
 | osl b sz off n=>
  simp only [Rep] at ha
  obtain⟨e0,he0,hl0,ad,cap,rfl,hc,hr⟩:=ha
  simp only [kg] at hq
  split at hq
  ·rename_i e k m hu
   simp only [Rep] at hi; subst hi
   split at hq
   ·rename_i hs
    obtain⟨hb,hq⟩:=hq
    have hq:=hq hb
    rcases hr with hr | ⟨ad',ha',rfl,cs,el,hcs,hsz⟩
    ·omega
    refine⟨_,.pointer (some ((⟨ad'.block,ad'.off+off*sz,none⟩:Addr).add (m.toNat*sz))),?_,hq,?_⟩
    ·simp only [Instr.indexAt,Sem.run_bind,asIntOf,Sem.run_pure,Result.andThen_ok,run_underlying hu,hb,and_self,if_true,zz hs]
    ·simp only [Rep]
     refine⟨e0,ad',he0,ha',by omega,?_⟩
     rw [add_plain rfl]
     simp only [Nat.add_mul,Nat.add_assoc,Nat.add_zero]
   ·exact hq.elim
  ·exact hq.elim
 | ptr b off=>
  simp only [Rep] at ha
  obtain⟨e0,ad',he0,ha',rfl⟩:=ha
  simp only [kg] at hq
  split at hq
  ·rename_i len e k m hu
   simp only [Rep] at hi; subst hi
   split at hq
   ·rename_i sz hs
    obtain⟨hb,hq⟩:=hq
    have hq:=hq hb
    refine⟨_,.pointer (some ((⟨ad'.block,ad'.off+off,none⟩:Addr).add (m.toNat*sz))),?_,hq,?_⟩
    ·simp only [Instr.indexAt,Sem.run_bind,asIntOf,Sem.run_pure,Result.andThen_ok,run_underlying hu,Instr.sureAddr,hb,and_self,if_true,zz hs]
    ·simp only [Rep]
     refine⟨e0,ad',he0,ha',?_⟩
     rw [add_plain rfl]
     simp only [Nat.add_assoc]
   ·exact hq.elim
  ·exact hq.elim
 | _=>exact hq.elim
theorem Jc{t:TypeId}{a i:AV}{va vi:Value}{Q:AV→Prop}(ha:Rep own w a σ va)(hi:Rep own w i σ vi)(hq:(Q4 P t i a).holds Q) :
  ∃ r v,(Instr.index t va vi).run P w = .ok v w∧Q r∧Rep own w r σ v:=by
 cases a with
 | str s=>
  simp only [Rep] at ha; subst ha
  simp only [Q4] at hq
  split at hq
  ·rename_i k m hu
   simp only [Rep] at hi; subst hi
   obtain⟨hb,hq⟩:=hq
   refine⟨_,_,?_,hq hb,rfl⟩
   have hlt:m.toNat<s.length:=by omega
   have:(⟨s.toArray⟩:ByteArray)[m.toNat]?=some (s.getD m.toNat 0):=by
    rw [getElem?_pos (⟨s.toArray⟩:ByteArray) m.toNat (by simpa [ByteArray.size] using hlt)]
    have h0:(⟨s.toArray⟩:ByteArray)[m.toNat]'(by simpa [ByteArray.size] using hlt)=s.toArray[m.toNat]'(by simpa using hlt):=rfl
    rw [h0]; simp [hlt,List.getD]
   simp only [Instr.index,Sem.run_bind,asIntOf,Sem.run_pure,Result.andThen_ok,run_underlying hu,hb.1,if_true,this]
  ·exact hq.elim
 | agg cs=>
  simp only [Rep] at ha
  obtain⟨vs,rfl,hr⟩:=ha
  simp only [Q4] at hq
  split at hq
  ·rename_i len e k m hu
   simp only [Rep] at hi; subst hi
   split at hq
   ·rename_i sz b hs hb
    obtain⟨hc,hq⟩:=hq
    have hq:=hq hc
    obtain⟨r,v,hQ,hR,h1,h2⟩:=kW (hr.cut (m.toNat*sz) sz) hq
    refine⟨r,v,?_,hQ,hR⟩
    simp only [Instr.index,Sem.run_bind,asIntOf,Sem.run_pure,Result.andThen_ok,run_underlying hu,hc.1,hc.2.1,and_self,if_true,zz hs,part,ku hb]
    cases b with
    | true=>
     have h3:=h1 rfl
     subst h3
     rw [← J2]
     simp only [if_true,Sem.run_bind,zz hs,Result.andThen_ok,Sem.run_pure]
    | false=>
     have h3:=h2 rfl
     have h4:((vs.drop (m.toNat*sz)).take sz)[0]?=some v:=by rw [h3]; rfl
     have h5:=(yx h4).1
     simp only [Nat.add_zero] at h5
     simp [h5]
   ·exact hq.elim
  ·exact hq.elim
 | _=>exact hq.elim
theorem Q8{va:Value}{i sz off n N:Nat}{g:Nat→Nat→AV}(ha:Rep own w (.osl i sz off n) σ va)(hb:∀ e,σ[i]?=some e→BRep own w σ e (.arr N sz g)) :
  ∃ ad cap,va = .slice ad n cap∧n≤cap∧(n=0∨∃ d,ad=some d∧d.spot=none ∧
   ∀ j o,j<n→o<sz→∃ c,w.cell? ⟨d.block,d.off+(j*sz+o),none⟩=some c∧c.oneCell'=true∧Rep own w (zg g off j o) [] c):=by
 simp only [Rep] at ha
 obtain⟨e,he,hl,ad,cap,rfl,hc,hr⟩:=ha
 refine⟨ad,cap,rfl,hc,?_⟩
 by_cases hn:n=0
 ·exact .inl hn
 ·right
  rcases hr with hr | ⟨ad',ha',rfl,cs,el,hcs,hsz⟩
  ·omega
  refine⟨_,rfl,rfl,fun j o hj ho=> ?_⟩
  have hb:=hb e he
  simp only [BRep] at hb
  obtain⟨hen,hz | ⟨ad2,cs2,el2,ha2,hcs2,hsz2,hr2⟩⟩:=hb
  ·omega
  rw [ha'] at ha2; cases ha2
  rw [hcs] at hcs2; cases hcs2
  obtain⟨c,h4,h5⟩:=hr2 (off+j) o (by omega) ho
  refine⟨c,?_,h5⟩
  refine vB hcs ?_
  rw [← h4]; dsimp only; congr 1; rw [Nat.add_mul]; omega
theorem xS{h:Heap}(hh:HRep own w σ h){a:AV}{va:Value}{n sz:Nat}{g:Nat→Nat→AV}(ha:Rep own w a σ va)(hs:qJ h a=some (n,sz,g)) :
  ∃ ad cap,va = .slice ad n cap∧n≤cap∧(n=0∨∃ d,ad=some d∧d.spot=none ∧
   ∀ j o,j<n→o<sz→∃ c,w.cell? ⟨d.block,d.off+(j*sz+o),none⟩=some c∧c.oneCell'=true∧Rep own w (g j o) [] c):=by
 cases a with
 | nils=>
  simp only [Rep] at ha; subst ha
  simp only [qJ,Option.some.injEq,Prod.mk.injEq] at hs
  obtain⟨rfl,rfl,rfl⟩:=hs
  exact⟨none,0,rfl,Nat.le_refl _,.inl rfl⟩
 | sl n' sz' g'=>
  simp only [qJ,Option.some.injEq,Prod.mk.injEq] at hs
  obtain⟨rfl,rfl,rfl⟩:=hs
  simp only [Rep] at ha
  obtain⟨ad,cap,rfl,hc,hr⟩:=ha
  refine⟨ad,cap,rfl,hc,?_⟩
  rcases hr with hr | ⟨d,h1,h2,h3⟩
  ·exact .inl hr
  ·exact .inr ⟨d,h1,h2,fun j o hj ho=>(h3 j o hj ho).2⟩
 | osl i sz' off n'=>
  simp only [qJ] at hs
  split at hs
  ·rename_i N sz'' g' hb
   split at hs
   ·rename_i hz
    subst hz
    simp only [Option.some.injEq,Prod.mk.injEq] at hs
    obtain⟨rfl,rfl,rfl⟩:=hs
    exact Q8 ha fun e he=>hh.blk i e _ he hb
   ·cases hs
  ·rename_i k N f hb
   split at hs
   ·rename_i hz
    subst hz
    simp only [Option.some.injEq,Prod.mk.injEq] at hs
    obtain⟨rfl,rfl,rfl⟩:=hs
    exact Q8 ha fun e he=>vK.1 (hh.blk i e _ he hb)
   ·cases hs
  ·rename_i N f hb
   split at hs
   ·rename_i hz
    subst hz
    simp only [Option.some.injEq,Prod.mk.injEq] at hs
    obtain⟨rfl,rfl,rfl⟩:=hs
    exact Q8 ha fun e he=>vQ.1 (hh.blk i e _ he hb)
   ·cases hs
  ·cases hs
 | _=>simp [qJ] at hs
theorem Kz{ρc:Operand→Value}{o:Oper}{x:Operand}(ho:o.op = .nilCheck x){a:AV}{Q:AV→Prop}(ha:Rep own w a σ (ρc x))(hq:(nilX a).holds Q) :
  ∃ r v,(execOp ρc o).run P w = .ok (.value v) w∧Q r∧Rep own w r σ v:=by
 cases a with
 | ptr i off=>
  have ha':=ha
  simp only [Rep] at ha
  obtain⟨e,ad,he,had,hv⟩:=ha
  exact⟨_,_,by simp only [execOp,ho]; rw [hv]; rfl,hq,by rw [hv] at ha'; exact ha'⟩
 | eptr i sz idx off=>
  have ha':=ha
  simp only [Rep] at ha
  obtain⟨e,ad,he,had,hl,hv⟩:=ha
  exact⟨_,_,by simp only [execOp,ho]; rw [hv]; rfl,hq,by rw [hv] at ha'; exact ha'⟩
 | iptr m g=>
  have ha':=ha
  simp only [Rep] at ha
  obtain⟨ad,hv,_⟩:=ha
  exact⟨_,_,by simp only [execOp,ho]; rw [hv]; rfl,hq,by rw [hv] at ha'; exact ha'⟩
 | fn f b c=>
  have ha':=ha
  simp only [Rep] at ha
  obtain⟨va,vb,hv,_⟩:=ha
  exact⟨_,_,by simp only [execOp,ho]; rw [hv]; rfl,hq,by rw [hv] at ha'; exact ha'⟩
 | _=>exact hq.elim
theorem fold_push:∀ (l:List Int) (s:ByteArray),l.foldl (fun r n=>r.push (UInt8.ofNat n.toNat)) s=⟨s.data++(l.map fun n=>UInt8.ofNat n.toNat).toArray⟩
 | [],s=>by simp
 | a::l,s=>by
  simp only [List.foldl_cons,fold_push l]
  apply ByteArray.ext
  apply Array.ext'
  simp [ByteArray.push]
theorem Wr{h:Heap}(hh:HRep own w σ h){src t:TypeId}{a:AV}{va:Value}{Q:AV→Prop}(ha:Rep own w a σ va)(hq:(J4 P h src t a).holds Q) :
  ∃ r v,(convert src t va).run P w = .ok v w∧Q r∧Rep own w r σ v:=by
 cases a with
 | int k n=>
  simp only [Rep] at ha; subst ha
  simp only [J4] at hq
  split at hq
  ·rename_i hs ht
   obtain⟨h1,h2⟩:=hq
   exact⟨_,_,by simp [convert,run_underlying hs,run_underlying ht,Conv.intToInt,jT h1]; rfl,h2 h1,by simp [Rep]⟩
  ·exact hq.elim
 | str s=>
  simp only [Rep] at ha; subst ha
  simp only [J4] at hq
  split at hq
  ·rename_i hs ht
   exact⟨_,_,by simp [convert,run_underlying hs,run_underlying ht]; rfl,hq,by simp [Rep]⟩
  ·exact hq.elim
 | _=>
  simp only [J4] at hq
  split at hq
  ·rename_i e hs ht
   split at hq
   ·rename_i n g he hsq
    obtain⟨h1,h2⟩:=hq
    obtain⟨ad,cap,rfl,hc,hr⟩:=xS hh ha hsq
    refine⟨_,_,?_,h2 h1,rfl⟩
    simp only [convert,Sem.run_bind,run_underlying hs,run_underlying ht,run_underlying he,Result.andThen_ok]
    cases ad with
    | none=>
     have hn:n=0:=by rcases hr with hr | ⟨d,h,_⟩; exact hr; cases h
     subst hn
     rfl
    | some d=>
     have hl:(loadCells d n).run P w = .ok (((List.range n).map fun j=>((byteOf (g j 0)).toNat:Int)).map (Value.int .u8)).toArray w:=by
      rcases hr with hr | ⟨d',h,hsp,hr⟩
      ·subst hr; rfl
      ·cases h
       rw [run_loadCells w d n (fun j=>.int .u8 ((byteOf (g j 0)).toNat:Int)) (fun j hj=>by
        obtain⟨c,h3,_,h4⟩:=hr j 0 hj (by omega)
        obtain⟨b,hb⟩:=h1 j hj
        rw [hb] at h4 ⊢
        simp only [Rep] at h4
        subst h4
        rw [add_plain hsp]
        rw [show d.off+(j*1+0)=d.off+j by omega] at h3
        rw [h3]
        simp [byteOf])]
       simp
     have:=run_bytesToString (P:=P) w d n cap _ hl
     rw [this,fold_push]
     congr 3
     simp [vS,Function.comp_def]
   ·exact hq.elim
  ·exact hq.elim
end
end Go.Sx
end
section
namespace Go.Sx
variable [Stat]
section
variable {own:Nat→Prop} {w:World} {σ:List SE} {P:Program}
theorem x3(v:Value):Rep own w (xH v) σ v:=by
 cases v with
 | slice a n c=>cases a<;>cases n<;>cases c<;>simp [xH,Rep]
 | pointer a=>cases a<;>simp [xH,Rep]
 | _=>simp [xH,Rep]
theorem jU(v:Value):Rep own w (kC v) σ v:=by
 cases v with
 | agg cs=>
  simp only [kC,Rep]
  exact⟨cs.toList,by simp,zq.2 ⟨by simp,fun i a v ha hv=>by
   simp only [List.getElem?_map,hv,Option.map_some,Option.some.injEq] at ha
   subst ha; exact x3 v⟩⟩
 | _=>simp only [kC]; exact x3 _
theorem qf{a:AV}{v:Value}{cs:List AV}(hc:cellsOf a=some cs)(h:Rep own w a σ v):RepL own w cs σ v.cells.toList:=by
 cases a with
 | agg l=>
  simp only [cellsOf,Option.some.injEq] at hc; subst hc
  simp only [Rep] at h
  obtain⟨vs,rfl,hr⟩:=h
  simpa [Value.cells] using hr
 | undef=>simp [cellsOf] at hc
 | opt _ _ _=>simp [cellsOf] at hc
 | sl n sz g=>
  simp only [cellsOf,Option.some.injEq] at hc; subst hc
  have h':=h
  simp only [Rep] at h'
  obtain⟨a,cap,rfl,_⟩:=h'
  simp only [Value.cells,RepL]; exact⟨_,_,rfl,h,rfl⟩
 | osl i sz off n=>
  simp only [cellsOf,Option.some.injEq] at hc; subst hc
  have h':=h
  simp only [Rep] at h'
  obtain⟨e,he,hl,a,cap,rfl,_⟩:=h'
  simp only [Value.cells,RepL]; exact⟨_,_,rfl,h,rfl⟩
 | ptr i off=>
  simp only [cellsOf,Option.some.injEq] at hc; subst hc
  have h':=h
  simp only [Rep] at h'
  obtain⟨e,ad,he,had,rfl⟩:=h'
  simp only [Value.cells,RepL]; exact⟨_,_,rfl,h,rfl⟩
 | eptr i sz idx off=>
  simp only [cellsOf,Option.some.injEq] at hc; subst hc
  have h':=h
  simp only [Rep] at h'
  obtain⟨e,ad,he,had,hl,rfl⟩:=h'
  simp only [Value.cells,RepL]; exact⟨_,_,rfl,h,rfl⟩
 | omap i=>
  simp only [cellsOf,Option.some.injEq] at hc; subst hc
  have h':=h
  simp only [Rep] at h'
  obtain⟨e,ad,he,had,rfl⟩:=h'
  simp only [Value.cells,RepL]; exact⟨_,_,rfl,h,rfl⟩
 | iptr m g=>
  simp only [cellsOf,Option.some.injEq] at hc; subst hc
  have h':=h
  simp only [Rep] at h'
  obtain⟨ad,rfl,_⟩:=h'
  simp only [Value.cells,RepL]; exact⟨_,_,rfl,h,rfl⟩
 | tup l=>
  simp only [cellsOf,Option.some.injEq] at hc; subst hc
  have h':=h
  simp only [Rep] at h'
  obtain⟨vs,rfl,hr⟩:=h'
  simp only [Value.cells,RepL]; exact⟨_,_,rfl,h,rfl⟩
 | fn f a b=>
  simp only [cellsOf,Option.some.injEq] at hc; subst hc
  have h':=h
  simp only [Rep] at h'
  obtain⟨va,vb,rfl,hr⟩:=h'
  simp only [Value.cells,RepL]; exact⟨_,_,rfl,h,rfl⟩
 | mp k ag sz ks has get=>
  simp only [cellsOf,Option.some.injEq] at hc; subst hc
  have h':=h
  simp only [Rep] at h'
  obtain⟨b,es,clock,rfl,hr⟩:=h'
  simp only [Value.cells,RepL]; exact⟨_,_,rfl,h,rfl⟩
 | _=>
  simp only [cellsOf,Option.some.injEq] at hc; subst hc
  have h':=h
  simp only [Rep] at h'
  subst h'
  simp only [Value.cells,RepL]; exact⟨_,_,rfl,h,rfl⟩
theorem wC{t:TypeId}{cs:List AV}(h:zeroCells P t=some cs):∃ v,(zeroValue t).run P w = .ok v w∧RepL own w cs σ v.cells.toList:=by
 unfold zeroCells at h
 split at h
 ·rename_i i hi
  split at h
  ·rename_i v hv
   refine⟨v,?_,qf h (jU v)⟩
   simp [zeroValue,run_typeInfo w hi,hv]
  ·cases h
 ·cases h
theorem RepL.setAt{l new:List AV}{vs nv:List Value}{off:Nat}(h:RepL own w l σ vs)(hn:RepL own w new σ nv)(hle:off+new.length≤l.length) :
  RepL own w (setAt l off new) σ (vs.take off++nv++vs.drop (off+nv.length)):=by
 have:=hn.length
 unfold Go.Sx.setAt
 rw [this]
 exact((h.tak off).app hn).app (h.drp _)
theorem Z9(off:Nat):∀ (l:List Value) (k:Nat) (cells:Array Value),off+k+l.length≤cells.size →
  ((l.zipIdx k).foldl (fun cs (x:Value×Nat)=>cs.setIfInBounds (off+x.2) x.1) cells).toList=cells.toList.take (off+k)++l++cells.toList.drop (off+k+l.length)
 | [],k,cells,h=>by simp
 | a::l,k,cells,h=>by
  simp only [List.length_cons] at h
  simp only [List.zipIdx_cons,List.foldl_cons]
  rw [Z9 off l (k+1) _ (by simp; omega)]
  simp only [Array.toList_setIfInBounds,List.length_cons]
  have h1:(cells.toList.set (off+k) a).take (off+(k+1))=cells.toList.take (off+k)++[a]:=by
   rw [show off+(k+1)=off+k+1 by omega,List.take_succ_eq_append_getElem (by simp; omega)]
   simp [List.take_set_of_le]
  have h2:(cells.toList.set (off+k) a).drop (off+(k+1)+l.length)=cells.toList.drop (off+k+(l.length+1)):=by
   rw [List.drop_set_of_lt (by omega)]
   congr 1; omega
  rw [h1,h2]
  simp
theorem w9{place placeX:Nat→Option (Nat×Nat)}(hp:∀ i x,placeX i=some x→place i=some x):∀ (parts:List (Nat×AV)) (vparts:List (Nat×Value)) (cells:List AV) (vcells:Array Value) (out:List AV),
  vparts.length=parts.length→(∀ (i:Nat) p q,parts[i]?=some p→vparts[i]?=some q→p.1=q.1∧Rep own w p.2 σ q.2) →
  RepL own w cells σ vcells.toList→w7 placeX cells parts=some out →
  ∃ vout,Instr.fill place vcells vparts=some vout∧RepL own w out σ vout.toList
 | [],vparts,cells,vcells,out,hl,hr,hc,h=>by
  have:vparts=[]:=by simpa using hl
  subst this
  simp only [w7,Option.some.injEq] at h; subst h
  exact⟨vcells,rfl,hc⟩
 | (i,v)::rest,vparts,cells,vcells,out,hl,hr,hc,h=>by
  match vparts,hl with
  | (i',v')::vrest,hl=>
   obtain⟨h1,h2⟩:=hr 0 (i,v) (i',v') (by simp) (by simp)
   simp only at h1 h2
   subst h1
   simp only [w7] at h
   split at h
   ·cases h
   ·rename_i off size hpl
    split at h
    ·rename_i cv hcv
     split at h
     ·rename_i hle
      have hcs:=qf hcv h2
      have hlen:=hcs.length
      have hlc:=hc.length
      simp only [Array.length_toList] at hlen hlc
      have hset:=hc.setAt hcs (off:=off) (by omega)
      have hfold:=Z9 off v'.cells.toList 0 vcells (by simp; omega)
      simp only [Nat.add_zero] at hfold
      rw [← hfold] at hset
      obtain⟨vout,h3,h4⟩:=w9 hp rest vrest _ _ out (by simpa using hl) (fun i p q hx hy=>hr (i+1) p q (by simpa using hx) (by simpa using hy)) hset h
      refine⟨vout,?_,h4⟩
      simp only [Instr.fill,hp i _ hpl]
      rw [if_neg (by simp; omega)]
      rw [← h3]
      congr 1
      rw [← Array.foldl_toList]
      simp
     ·cases h
    ·cases h
theorem QS{α β:Type}{f:α→Sem β}{g:α→β} : ∀ (l:List α),(∀ x∈l,(f x).run P w = .ok (g x) w)→(l.mapM f).run P w = .ok (l.map g) w
 | [],_=>by simp
 | a::l,h=>by
  simp only [List.mapM_cons,Sem.run_bind,h a (by simp),Result.andThen_ok,QS l (fun x hx=>h x (by simp [hx])),Sem.run_pure,List.map_cons]
theorem QZ{t:TypeId}{parts:Array (Nat×Operand)}{ρ:Operand→AV}{ρc:Operand→Value}(hρ:∀ x,Rep own w (ρ x) σ (ρc x)){Q:AV→Prop}
  (hq:(Wd P t (parts.toList.map fun p=>(p.1,ρ p.2))).holds Q) :
  ∃ r v,(Instr.build t (parts.map fun(i,x)=>(i,ρc x))).run P w = .ok v w∧Q r∧Rep own w r σ v:=by
 have hparts:∀ (i:Nat) (p:Nat×AV) (q:Nat×Value),(parts.toList.map fun p=>(p.1,ρ p.2))[i]?=some p→((parts.map fun(i,x)=>(i,ρc x)).toList)[i]?=some q→p.1=q.1∧Rep own w p.2 σ q.2:=by
  intro i p q hp hq
  simp only [List.getElem?_map,Array.toList_map] at hp hq
  cases hx:parts.toList[i]? with
  | none=>simp [hx] at hp
  | some x=>
   simp only [hx,Option.map_some,Option.some.injEq] at hp hq
   subst hp; subst hq
   exact⟨rfl,hρ x.2⟩
 simp only [Wd] at hq
 split at hq
 ·rename_i fs hu
  split at hq
  ·rename_i cs hz
   split at hq
   ·rename_i out hf
    split at hq
    ·rename_i hall
     obtain⟨v,hv,hr⟩:=wC (P:=P) (own:=own) (w:=w) (σ:=σ) hz
     have hsz:∀ f∈fs.toList,((do pure (f.offset,← sizeOf f.type):Sem (Nat×Nat))).run P w = .ok (f.offset,(zS P f.type).getD 0) w:=by
      intro f hf
      have:=Array.all_eq_true'.1 hall f (by simpa using hf)
      obtain⟨n,hn⟩:=Option.isSome_iff_exists.1 this
      simp [zz hn,hn]
     have hm:=QS (P:=P) (w:=w) fs.toList hsz
     obtain⟨vout,h3,h4⟩:=w9 (place:=fun i=>(fs.map fun f=>(f.offset,(zS P f.type).getD 0))[i]?) (fun i x hx=>by
      simp only [Array.getElem?_map]
      split at hx
      ·rename_i f hf
       simp only [hf,Option.map_some]
       cases hs:zS P f.type with
       | none=>simp [hs] at hx
       | some n=>simp [hs] at hx ⊢; exact hx
      ·cases hx) _ (parts.map fun(i,x)=>(i,ρc x)).toList cs v.cells out (by simp) hparts hr hf
     refine⟨_,.agg vout,?_,hq,by simp only [Rep]; exact⟨vout.toList,by simp,h4⟩⟩
     have hm':(fs.mapM fun f=>(do pure (f.offset,← sizeOf f.type):Sem (Nat×Nat))).run P w = .ok (fs.map fun f=>(f.offset,(zS P f.type).getD 0)) w:=by
      obtain⟨l⟩:=fs
      rw [List.mapM_toArray]
      simp only [Sem.run_map,hm]
      simp
     simp only [Instr.build,Sem.run_bind,hv,Result.andThen_ok,run_underlying hu,hm',h3,Sem.run_pure]
    ·exact hq.elim
   ·exact hq.elim
  ·exact hq.elim
 ·rename_i n e hu
  split at hq
  ·rename_i cs sz hz hs
   split at hq
   ·rename_i out hf
    obtain⟨v,hv,hr⟩:=wC (P:=P) (own:=own) (w:=w) (σ:=σ) hz
    obtain⟨vout,h3,h4⟩:=w9 (fun i x hx=>hx) _ (parts.map fun(i,x)=>(i,ρc x)).toList cs v.cells out (by simp) hparts hr hf
    refine⟨_,.agg vout,?_,hq,by simp only [Rep]; exact⟨vout.toList,by simp,h4⟩⟩
    simp only [Instr.build,Sem.run_bind,hv,Result.andThen_ok,run_underlying hu,zz hs,h3,Sem.run_pure]
   ·exact hq.elim
  ·exact hq.elim
 ·exact hq.elim
end
end Go.Sx
end
section
namespace Go.Sx
variable [Stat]
open Go.RowKit (Below)
section
variable {own O:Nat→Prop} {w:World} {σ:List SE} {P:Program}
theorem jZ{i:Nat} : ∀ {a:AV} {v:Value},Rep own w a σ v→Rep own w (qw i a) σ v:=by
 intro a v h
 cases a<;>simp only [qw]<;>(try exact h)<;>(try (simp only [Rep]))<;>(try (split<;>first | exact h | (simp only [Rep])))
theorem RepL.map{f:AV→AV}(hf:∀ a v,Rep own w a σ v→Rep own w (f a) σ v){l:List AV}{vs:List Value}(h:RepL own w l σ vs):RepL own w (l.map f) σ vs:=by
 refine zq.2 ⟨by simp [h.length],fun i a v ha hv=> ?_⟩
 simp only [List.getElem?_map] at ha
 cases hl:l[i]? with
 | none=>simp [hl] at ha
 | some x=>
  simp only [hl,Option.map_some,Option.some.injEq] at ha
  subst ha
  exact hf _ _ ((zq.1 h).2 i x v hl hv)
theorem QR{i:Nat}{a:AV}{v:Value}(h:Rep own w a σ v):Rep own w (zO i a) σ v:=by
 cases a with
 | agg cs=>
  simp only [Rep,zO] at h ⊢
  obtain⟨vs,hv,hr⟩:=h
  exact⟨vs,hv,hr.map fun _ _ h=>jZ h⟩
 | tup cs=>
  simp only [Rep,zO] at h ⊢
  obtain⟨vs,hv,hr⟩:=h
  exact⟨vs,hv,hr.map fun _ _ h=>jZ h⟩
 | fn f a b=>
  simp only [Rep,zO] at h ⊢
  obtain⟨va,vb,hv,hr,hs⟩:=h
  exact⟨va,vb,hv,hr.map fun _ _ h=>jZ h,hs.map fun _ _ h=>jZ h⟩
 | _=>simp only [zO]; exact jZ (i:=i) h
theorem zH{K:List Nat} : ∀ {l:List AV},NoHL K l↔∀ a∈l,NoH K a
 | []=>by simp [NoHL]
 | a::l=>by simp [NoHL,zH (l:=l)]
theorem vn(i:Nat)(a:AV):NoH [i] (qw i a):=by
 cases a<;>simp only [qw]<;>(try (simp [NoH]; done))<;>(try (split<;>simp_all [NoH,NoHL]<;>omega))
theorem VE(i:Nat)(a:AV):NoH [i] (zO i a):=by
 cases a with
 | agg cs=>simp only [zO,NoH]; exact zH.2 fun x hx=>by obtain⟨y,_,rfl⟩:=List.mem_map.1 hx; exact vn i y
 | tup cs=>simp only [zO,NoH]; exact zH.2 fun x hx=>by obtain⟨y,_,rfl⟩:=List.mem_map.1 hx; exact vn i y
 | fn f a b=>simp only [zO,NoH]; exact⟨zH.2 fun x hx=>by obtain⟨y,_,rfl⟩:=List.mem_map.1 hx; exact vn i y,zH.2 fun x hx=>by obtain⟨y,_,rfl⟩:=List.mem_map.1 hx; exact vn i y⟩
 | _=>simp only [zO]; exact vn i _
theorem wa{K:List Nat}(i:Nat){a:AV}(h:NoH K a):NoH K (qw i a):=by
 cases a<;>simp only [qw]<;>(try exact h)<;>(try (simp [NoH]; done))<;>(try (split<;>first | exact h | (simp [NoH,NoHL])))
theorem Jj{K:List Nat}(i:Nat){a:AV}(h:NoH K a):NoH K (zO i a):=by
 cases a with
 | agg cs=>simp only [zO,NoH] at h ⊢; exact zH.2 fun x hx=>by obtain⟨y,hy,rfl⟩:=List.mem_map.1 hx; exact wa i (zH.1 h y hy)
 | tup cs=>simp only [zO,NoH] at h ⊢; exact zH.2 fun x hx=>by obtain⟨y,hy,rfl⟩:=List.mem_map.1 hx; exact wa i (zH.1 h y hy)
 | fn f a b=>simp only [zO,NoH] at h ⊢; exact⟨zH.2 fun x hx=>by obtain⟨y,hy,rfl⟩:=List.mem_map.1 hx; exact wa i (zH.1 h.1 y hy),zH.2 fun x hx=>by obtain⟨y,hy,rfl⟩:=List.mem_map.1 hx; exact wa i (zH.1 h.2 y hy)⟩
 | _=>simp only [zO]; exact wa i h
theorem Xs{i:Nat}{K:List Nat} : ∀ {a:AV},NoH [i] a→NoH K a→NoH (i::K) a:=by
 intro a
 induction a using AV.rec (motive_2:=fun l=>NoHL [i] l→NoHL K l→NoHL (i::K) l)<;>simp_all [NoH,NoHL]
theorem jt:∀ {K:List Nat} {a:AV} {v:Value},Rep own w a σ v→Rep own w (z5 K a) σ v
 | [],_,_,h=>h
 | i::k,_,_,h=>jt (K:=k) (QR h)
theorem x7{K:List Nat} : ∀ {L:List Nat} {a:AV},NoH K a→NoH K (z5 L a)
 | [],_,h=>h
 | i::k,_,h=>x7 (L:=k) (Jj i h)
theorem v7:∀ (K:List Nat) (a:AV),NoH K (z5 K a)
 | [],a=>jb a
 | i::k,a=>show NoH (i::k) (z5 k (zO i a)) from Xs (x7 (VE i a)) (v7 k _)
theorem jr:∀ (K:List Nat) (ts:List AV),wK K ts=ts.map (z5 K)
 | [],ts=>by
  have:z5 []=id:=rfl
  simp [wK,this]
 | i::k,ts=>by
  simp only [wK,jr k,List.map_map]
  rfl
def qW(K:List Nat):Blk→Blk
 | .box cs=>.box (cs.map (z5 K))
 | b=>b
theorem zC:∀ (K:List Nat) (h:Heap),zw K h=h.map (qW K)
 | [],h=>by
  have:qW []=id:=funext fun b=>by cases b<;>simp [qW]; exact List.map_id _
  simp [zw,this]
 | i::k,h=>by
  simp only [zw,zC k,List.map_map]
  congr 1
  funext b
  cases b<;>simp [qW,ZC,Function.comp_def,z5]
structure Post(O:Nat→Prop)(w:World)(σ:List SE)(h:Heap)(r:Res)(v:Value)(w':World)(σ':List SE):Prop where
 rep:Rep (Own O σ') w' r.val σ' v
 ext:Ext (Own O σ) w (Own O σ') w'
 hp:HRep (Own O σ') w' σ' (zi (zw r.kill h) r.eff)
 hold:Hold r.kill w σ w' σ'
 good:Good O w' σ'
 wZ:∀ b,O b→b<w.heap.size→w'.heap[b]?=w.heap[b]?
 fr:∀ (i:Nat) (e:SE) (ad:Addr),σ[i]?=some e→e.ad=some ad→i∉r.eff.map (·.1)→w'.heap[ad.block]?=w.heap[ad.block]?
theorem q8{K:List Nat}{o1 o2:Nat→Prop}{w1 w2:World}{σ1 σ2:List SE}(hx:Ext o1 w1 o2 w2)(hh:Hold K w1 σ1 w2 σ2){e:SE}{b:Blk}(hb:BRep o1 w1 σ1 e b)
  (hm:∀ ad,e.ad=some ad→w2.heap[ad.block]?=w1.heap[ad.block]?):BRep o2 w2 σ2 e (qW K b):=by
 cases b with
 | dead=>trivial
 | map ag sh has get pe=>
  simp only [qW,BRep] at hb ⊢
  obtain⟨ad,es,clock,l,had,hes,h1,h2,h3,h4⟩:=hb
  exact⟨ad,es,clock,l,had,(hm ad had).trans hes,h1,h2,h3,h4.ext hx⟩
 | box cells=>
  simp only [qW,BRep] at hb ⊢
  obtain⟨ad,vs,el,had,h0,hcs,hr⟩:=hb
  exact⟨ad,vs,el,had,h0,(hm ad had).trans hcs,qq hx hh _ vs (zH.2 fun x hx=>by obtain⟨y,_,rfl⟩:=List.mem_map.1 hx; exact v7 K y) (hr.map fun _ _ h=>jt h)⟩
 | arr n sz get=>
  simp only [qW,BRep] at hb ⊢
  obtain⟨hn,hz | ⟨ad,cs,el,had,hcs,hsz,hr⟩⟩:=hb
  ·exact⟨hn,.inl hz⟩
  ·refine⟨hn,.inr ⟨ad,cs,el,had,(hm ad had).trans hcs,hsz,fun j o hj ho=> ?_⟩⟩
   obtain⟨c,h1,h2,h3⟩:=hr j o hj ho
   exact⟨c,h1,h2,zj hx _ _ h3⟩
 | arrI _ n _=>
  simp only [qW,BRep] at hb ⊢
  obtain⟨hn,hz | ⟨ad,cs,el,had,hcs,hsz,hr⟩⟩:=hb
  ·exact⟨hn,.inl hz⟩
  ·refine⟨hn,.inr ⟨ad,cs,el,had,(hm ad had).trans hcs,hsz,fun j o hj ho=> ?_⟩⟩
   obtain⟨c,h1,h2,h3⟩:=hr j o hj ho
   exact⟨c,h1,h2,zj hx _ _ h3⟩
 | arrS n _=>
  simp only [qW,BRep] at hb ⊢
  obtain⟨hn,hz | ⟨ad,cs,el,had,hcs,hsz,hr⟩⟩:=hb
  ·exact⟨hn,.inl hz⟩
  ·refine⟨hn,.inr ⟨ad,cs,el,had,(hm ad had).trans hcs,hsz,fun j o hj ho=> ?_⟩⟩
   obtain⟨c,h1,h2,h3⟩:=hr j o hj ho
   exact⟨c,h1,h2,zj hx _ _ h3⟩
theorem WB{σ:List SE}{ad:Addr}{n:Nat}{b:Nat} : Own O (σ++[⟨some ad,n⟩]) b↔Own O σ b∨b=ad.block:=by
 unfold Own
 constructor
 ·rintro(h | ⟨e,he,a,h1,h2⟩)
  ·exact .inl (.inl h)
  rcases List.mem_append.1 he with he | he
  ·exact .inl (.inr ⟨e,he,a,h1,h2⟩)
  ·simp at he; subst he; simp at h1; subst h1; exact .inr h2.symm
 ·rintro((h | ⟨e,he,a,h1,h2⟩) | rfl)
  ·exact .inl h
  ·exact .inr ⟨e,List.mem_append.2 (.inl he),a,h1,h2⟩
  ·exact .inr ⟨_,List.mem_append.2 (.inr (List.mem_singleton.2 rfl)),ad,rfl,rfl⟩
theorem zY{h:Heap}(hh:HRep (Own O σ) w σ h)(o:Obj)(n:Nat):Ext (Own O σ) w (Own O (σ++[⟨some ⟨w.heap.size,0,none⟩,n⟩])) (w.alloc o) where
 os:=rfl
 tape:=rfl
 output:=rfl
 size:=by simp
 keep b hb _:=Below.heap_alloc w o b hb
 grow b hb:=by
  rcases WB.1 hb with h | h
  ·exact .inl h
  ·exact .inr (Nat.le_of_eq h.symm)
theorem qh{h:Heap}(hh:HRep (Own O σ) w σ h)(o:Obj)(x:SE):Hold [] w σ (w.alloc o) (σ++[x]):=by
 intro i e he _
 refine⟨by rw [List.getElem?_append_left (List.getElem?_eq_some_iff.1 he).1]; exact he,fun ad had cs el hcs=>⟨cs,el,?_,rfl⟩⟩
 rw [Below.heap_alloc w o _ (hh.lt i e ad he had)]; exact hcs
theorem qK(b:Blk):qW [] b=b:=by
 cases b<;>simp [qW]
 have:z5 []=id:=rfl
 rw [this]; simp
theorem j6{h:Heap}(hh:HRep (Own O σ) w σ h){ob:Obj}{n:Nat}{B:Blk}
  (hB:BRep (Own O (σ++[⟨some ⟨w.heap.size,0,none⟩,n⟩])) (w.alloc ob) (σ++[⟨some ⟨w.heap.size,0,none⟩,n⟩]) ⟨some ⟨w.heap.size,0,none⟩,n⟩ B) :
  HRep (Own O (σ++[⟨some ⟨w.heap.size,0,none⟩,n⟩])) (w.alloc ob) (σ++[⟨some ⟨w.heap.size,0,none⟩,n⟩]) (h++[B]):=by
 have hget:∀ (i:Nat) (e:SE),(σ++[(⟨some ⟨w.heap.size,0,none⟩,n⟩:SE)])[i]?=some e→σ[i]?=some e∨(i=σ.length∧e=⟨some ⟨w.heap.size,0,none⟩,n⟩):=by
  intro i e he
  rw [List.getElem?_append] at he
  split at he
  ·exact .inl he
  ·rename_i hi
   right
   have:i - σ.length=0:=by
    have:=(List.getElem?_eq_some_iff.1 he).1
    simp at this; omega
   rw [this] at he
   simp at he
   exact⟨by omega,he.symm⟩
 refine⟨by simp [hh.len],?_,?_,?_⟩
 ·intro i j e f a b he hf ha hb hne
  rcases hget i e he with he | ⟨hi,rfl⟩<;>rcases hget j f hf with hf | ⟨hj,rfl⟩
  ·exact hh.inj i j e f a b he hf ha hb hne
  ·have:=hh.lt i e a he ha
   cases hb; simp; omega
  ·have:=hh.lt j f b hf hb
   cases ha; simp; omega
  ·omega
 ·intro i e a he ha
  rcases hget i e he with he | ⟨hi,rfl⟩
  ·have:=hh.lt i e a he ha
   simp; omega
  ·cases ha; simp
 ·intro i e b he hb
  rcases hget i e he with he | ⟨hi,rfl⟩
  ·rw [List.getElem?_append_left (by rw [← hh.len]; exact(List.getElem?_eq_some_iff.1 he).1)] at hb
   have:=q8 (zY hh ob n) (qh hh ob ⟨some ⟨w.heap.size,0,none⟩,n⟩) (hh.blk i e b he hb) (fun ad had=>Below.heap_alloc w _ _ (hh.lt i e ad he had))
   rwa [qK] at this
  ·rw [List.getElem?_append_right (by rw [← hh.len]; omega),← hh.len,hi] at hb
   simp at hb
   subst hb
   exact hB
structure Turn(w w':World)(b:Nat):Prop where
 os:w'.os=w.os
 tape:w'.tape=w.tape
 output:w'.output=w.output
 size:w'.heap.size=w.heap.size
 other:∀ k,k≠b→w'.heap[k]?=w.heap[k]?
theorem vY(w:World)(b:Nat)(cs:Array Value):Turn w (w.setRow b cs) b:=⟨rfl,rfl,rfl,by simp,fun k hk=>setRow_other w b k cs hk⟩
theorem qx{w':World}{b:Nat}(ht:Turn w w' b)(hb:Own O σ b):Ext (Own O σ) w (Own O σ) w':=
 ⟨ht.os,ht.tape,ht.output,Nat.le_of_eq ht.size.symm,fun k hk hn=>ht.other k (fun e=>hn (e▸hb)),fun k hk=>.inl hk⟩
theorem wv{w':World}{b:Nat}(ht:Turn w w' b)(hs:∀ cs el,w.heap[b]?=some (.cells cs el (0,0))→∃ cs' el',w'.heap[b]?=some (.cells cs' el' (0,0))∧cs'.size=cs.size):Hold [] w σ w' σ:=by
 intro i e he _
 refine⟨he,fun ad had cs el hcs=> ?_⟩
 by_cases h:ad.block=b
 ·subst h; exact hs cs el hcs
 ·exact⟨cs,el,(ht.other _ h).trans hcs,rfl⟩
theorem yd{w':World}{h:Heap}{i:Nat}{e:SE}{ad:Addr}{B:Blk}(hh:HRep (Own O σ) w σ h)(he:σ[i]?=some e)(had:e.ad=some ad)(ht:Turn w w' ad.block)
  (hs:∀ cs el,w.heap[ad.block]?=some (.cells cs el (0,0))→∃ cs' el',w'.heap[ad.block]?=some (.cells cs' el' (0,0))∧cs'.size=cs.size)
  (hB:BRep (Own O σ) w' σ e B):HRep (Own O σ) w' σ (zU h i B):=by
 have hi:i<h.length:=by rw [← hh.len]; exact(List.getElem?_eq_some_iff.1 he).1
 have hown:Own O σ ad.block:=.inr ⟨e,List.mem_of_getElem? he,ad,had,rfl⟩
 simp only [zU,if_pos hi]
 refine⟨by simp [hh.len],hh.inj,fun j f a hf ha=>by rw [ht.size]; exact hh.lt j f a hf ha,?_⟩
 intro j f b hf hb
 rw [List.getElem?_set] at hb
 split at hb
 ·rename_i hij
  subst hij
  simp at hb
  obtain⟨_,rfl⟩:=hb
  rw [he] at hf; cases hf
  exact hB
 ·rename_i hij
  have:=q8 (qx ht hown) (wv ht hs) (hh.blk j f b hf hb) (fun a ha=>ht.other _ (hh.inj j i f e a ad hf he ha had (fun h=>hij h.symm)))
  rwa [qK] at this
theorem jA{a:AV}{v:Value}(h1:oneA a=true)(h:Rep own w a σ v):v.oneCell'=true:=by
 cases a with
 | sl n sz g=>simp only [Rep] at h; obtain⟨a,cap,rfl,_⟩:=h; rfl
 | osl i sz off n=>simp only [Rep] at h; obtain⟨e,he,hl,a,cap,rfl,_⟩:=h; rfl
 | ptr i off=>simp only [Rep] at h; obtain⟨e,ad,he,had,rfl⟩:=h; rfl
 | eptr i sz idx off=>simp only [Rep] at h; obtain⟨e,ad,he,had,hl,rfl⟩:=h; rfl
 | iptr m g=>simp only [Rep] at h; obtain⟨ad,rfl,_⟩:=h; rfl
 | fn f a b=>simp only [Rep] at h; obtain⟨va,vb,rfl,_⟩:=h; rfl
 | mp k ag sz ks has get=>simp only [Rep] at h; obtain⟨b,es,clock,rfl,_⟩:=h; rfl
 | omap i=>simp only [Rep] at h; obtain⟨e,ad,he,had,rfl⟩:=h; rfl
 | agg _=>simp [oneA] at h1
 | tup _=>simp [oneA] at h1
 | undef=>simp [oneA] at h1
 | opt _ _ _=>simp [oneA] at h1
 | _=>simp only [Rep] at h; subst h; rfl
theorem jI{h:Heap}(hh:HRep (Own O σ) w σ h)(hg:Good O w σ)(o:Obj)(n:Nat):Good O (w.alloc o) (σ++[⟨some ⟨w.heap.size,0,none⟩,n⟩]):=by
 refine⟨fun b hb=>by have:=hg.old b hb; simp; omega,fun i e ad he had hO=> ?_,hg.stat.ext (zY hh o n)⟩
 rw [List.getElem?_append] at he
 split at he
 ·exact hg.dis i e ad he had hO
 ·have:i - σ.length=0:=by
   have:=(List.getElem?_eq_some_iff.1 he).1
   simp at this; omega
  rw [this] at he
  simp at he
  subst he
  simp at had
  subst had
  have:=hg.old _ hO
  simp at this
theorem yi{h:Heap}(hg:Good O w σ)(hh:HRep (Own O σ) w σ h){cs:List AV}{vs:List Value}{el:TypeId}(hr:RepL (Own O σ) w cs σ vs) :
  Post O w σ h ⟨.ptr h.length 0,[(h.length,.box cs)],[]⟩ (.pointer (some ⟨w.heap.size,0,none⟩)) (w.alloc (.cells vs.toArray el)) (σ++[⟨some ⟨w.heap.size,0,none⟩,0⟩]) where
 rep:=by
  simp only [Rep]
  exact⟨⟨some ⟨w.heap.size,0,none⟩,0⟩,⟨w.heap.size,0,none⟩,by rw [← hh.len]; simp,rfl,by simp⟩
 ext:=zY hh _ _
 hold:=qh hh _ _
 good:=jI hh hg _ _
 wZ b _ hb:=Below.heap_alloc w _ b hb
 fr i e ad he had _:=Below.heap_alloc w _ _ (hh.lt i e ad he had)
 hp:=by
  simp only [zw,zi,zU,Nat.lt_irrefl,if_false]
  exact j6 hh (by
   simp only [BRep]
   exact⟨_,vs,el,rfl,rfl,heap_alloc_new w _,qq (zY hh _ 0) (qh hh _ _) _ _ (jv _) hr⟩)
def frzS(K:List Nat)(σ:List SE):List SE:=σ.zipIdx.map fun p=>if K.contains p.2 then⟨none,0⟩ else p.1
theorem q6(K:List Nat)(σ:List SE)(i:Nat):(frzS K σ)[i]?=(σ[i]?).map fun e=>if K.contains i then⟨none,0⟩ else e:=by
 simp only [frzS,List.getElem?_map,List.getElem?_zipIdx]
 cases σ[i]?<;>simp
theorem yO{K:List Nat}{b:Nat}(h:Own O (frzS K σ) b):O b∨∃ i e ad,σ[i]?=some e∧i∉K∧e.ad=some ad∧ad.block=b:=by
 rcases h with h | ⟨e,he,ad,h1,h2⟩
 ·exact .inl h
 right
 obtain⟨i,hi⟩:=List.mem_iff_getElem?.1 he
 rw [q6] at hi
 cases hs:σ[i]? with
 | none=>simp [hs] at hi
 | some e'=>
  simp only [hs,Option.map_some,Option.some.injEq] at hi
  split at hi
  ·subst hi; simp at h1
  ·rename_i hk
   subst hi
   exact⟨i,e',ad,hs,by simpa using hk,h1,h2⟩
theorem vZ{K:List Nat}{b:Nat}(h:Own O (frzS K σ) b):Own O σ b:=by
 rcases yO h with h | ⟨i,e,ad,h1,_,h2,h3⟩
 ·exact .inl h
 ·exact .inr ⟨e,List.mem_of_getElem? h1,ad,h2,h3⟩
theorem qS(K:List Nat)(w:World)(σ:List SE):Ext (Own O σ) w (Own O (frzS K σ)) w:=⟨rfl,rfl,rfl,Nat.le_refl _,fun _ _ _=>rfl,fun _ h=>.inl (vZ h)⟩
theorem kr(K:List Nat)(hg:Good O w σ):Good O w (frzS K σ):=by
 refine⟨hg.old,fun i e ad he had=> ?_,hg.stat.ext (qS K w σ)⟩
 rw [q6] at he
 cases hs:σ[i]? with
 | none=>simp [hs] at he
 | some e'=>
  simp only [hs,Option.map_some,Option.some.injEq] at he
  split at he
  ·subst he; simp at had
  ·subst he; exact hg.dis i e' ad hs had
theorem kq(K:List Nat)(w:World)(σ:List SE):Hold K w σ w (frzS K σ):=by
 intro i e he hk
 refine⟨by rw [q6,he]; simp [hk],fun _ _ cs el h=>⟨cs,el,h,rfl⟩⟩
def qM(K:List Nat)(h:Heap):Heap:=h.zipIdx.map fun p=>if K.contains p.2 then .dead else p.1
theorem qA(K:List Nat)(h:Heap)(i:Nat):(qM K h)[i]?=(h[i]?).map fun e=>if K.contains i then .dead else e:=by
 simp only [qM,List.getElem?_map,List.getElem?_zipIdx]
 cases h[i]?<;>simp
theorem wX{h:Heap}(hh:HRep (Own O σ) w σ h)(K:List Nat):HRep (Own O (frzS K σ)) w (frzS K σ) (qM K (zw K h)):=by
 have hget:∀ (i:Nat) (e:SE),(frzS K σ)[i]?=some e→(i∈K∧e=⟨none,0⟩)∨(i∉K∧σ[i]?=some e):=by
  intro i e he
  rw [q6] at he
  cases hs:σ[i]? with
  | none=>simp [hs] at he
  | some e'=>
   simp only [hs,Option.map_some,Option.some.injEq] at he
   split at he
   ·rename_i hk; exact .inl ⟨by simpa using hk,he.symm⟩
   ·rename_i hk; subst he; exact .inr ⟨by simpa using hk,rfl⟩
 refine⟨by simp [frzS,qM,zC,hh.len],?_,?_,?_⟩
 ·intro i j e f a b he hf ha hb hne
  rcases hget i e he with ⟨_,rfl⟩ | ⟨_,he⟩
  ·cases ha
  rcases hget j f hf with ⟨_,rfl⟩ | ⟨_,hf⟩
  ·cases hb
  exact hh.inj i j e f a b he hf ha hb hne
 ·intro i e a he ha
  rcases hget i e he with ⟨_,rfl⟩ | ⟨_,he⟩
  ·cases ha
  exact hh.lt i e a he ha
 ·intro i e b he hb
  rw [qA,zC,List.getElem?_map] at hb
  cases hx:h[i]? with
  | none=>simp [hx] at hb
  | some b'=>
   simp only [hx,Option.map_some,Option.some.injEq] at hb
   rcases hget i e he with ⟨hk,rfl⟩ | ⟨hk,he⟩
   ·rw [if_pos (by simpa using hk)] at hb
    subst hb; trivial
   ·rw [if_neg (by simpa using hk)] at hb
    subst hb
    exact q8 (qS K w σ) (kq K w σ) (hh.blk i e b' he hx) (fun _ _=>rfl)
theorem vX:∀ (K:List Nat) (h:Heap),(∀ i∈K,i<h.length)→zi h (j4 K)=qM K h
 | [],h,_=>by
  simp only [j4,List.map_nil,zi]
  apply List.ext_getElem?
  intro i
  rw [qA]
  cases h[i]?<;>simp
 | k::K,h,hk=>by
  have h1:=hk k (by simp)
  have:zi h (j4 (k::K))=zi (h.set k .dead) (j4 K):=by
   simp [j4,zi,zU,h1]
  rw [this,vX K _ (fun i hi=>by simpa using hk i (by simp [hi]))]
  apply List.ext_getElem?
  intro i
  rw [qA,qA,List.getElem?_set]
  by_cases hik:k=i
  ·subst hik
   simp [h1]
  ·cases hx:h[i]? with
   | none=>simp [hik,hx]
   | some b=>
    simp only [if_neg hik,hx,Option.map_some,Option.some.injEq]
    have:((k::K).contains i)=(K.contains i):=by simp [Ne.symm hik]
    rw [this]
theorem uw{f:AV→Option (AV×List Nat)}{h:Heap}{K:List Nat}(hf0:∀ {a a':AV} {v:Value} {k:List Nat},Rep (Own O σ) w a σ v→f a=some (a',k)→(∀ i∈k,i∈K)→Rep (Own O (frzS K σ)) w a' [] v∧oneA a'=true∧∀ i∈k,i<h.length):∀ {l l':List AV} {vs:List Value} {k:List Nat},RepL (Own O σ) w l σ vs→frzM f l=some (l',k)→(∀ i∈k,i∈K) →
  RepL (Own O (frzS K σ)) w l' [] vs∧(∀ a∈l',oneA a=true)∧l'.length=l.length∧∀ i∈k,i<h.length
 | [],l',vs,k,hr,hf,hk=>by
  simp only [frzM,Option.some.injEq,Prod.mk.injEq] at hf
  obtain⟨rfl,rfl⟩:=hf
  exact⟨by simpa [RepL] using hr,by simp,rfl,by simp⟩
 | a::l,l',vs,k,hr,hf,hk=>by
  simp only [frzM] at hf
  split at hf
  ·rename_i a' i l2 k2 h1 h2
   simp only [Option.some.injEq,Prod.mk.injEq] at hf
   obtain⟨rfl,rfl⟩:=hf
   simp only [RepL] at hr ⊢
   obtain⟨v,r,rfl,h3,h4⟩:=hr
   obtain⟨h5,h6,h7⟩:=hf0 h3 h1 (fun i hi=>hk i (by simp [hi]))
   obtain⟨h8,h9,h11,h10⟩:=uw hf0 h4 h2 (fun i hi=>hk i (by simp [hi]))
   refine⟨⟨v,r,rfl,h5,h8⟩,?_,by simp [h11],?_⟩
   ·intro x hx
    rcases List.mem_cons.1 hx with rfl | hx
    ·exact h6
    ·exact h9 x hx
   ·intro x hx
    rcases List.mem_append.1 hx with hx | hx
    ·exact h7 x hx
    ·exact h10 x hx
  ·cases hf
theorem QV{h:Heap}(hg:Good O w σ)(hh:HRep (Own O σ) w σ h){K:List Nat}{i:Nat}{e:SE}{ad:Addr}(he:σ[i]?=some e)(hd:e.ad=some ad)(hi:i∈K):¬ Own O (frzS K σ) ad.block:=fun hown=>by
 rcases yO hown with hO | ⟨i',e',ad',h4,h5,h6,h7⟩
 ·exact hg.dis i e ad he hd hO
 exact hh.inj i' i e' e ad' ad h4 he h6 hd (fun hii=>h5 (hii▸hi)) h7
theorem u6{h:Heap}(hg:Good O w σ)(hh:HRep (Own O σ) w σ h){i sz off n n' sz':Nat}{g:Nat→Nat→AV}{v:Value}{K:List Nat}(ha:Rep (Own O σ) w (.osl i sz off n) σ v)(hs:qJ h (.osl i sz off n)=some (n',sz',g))(hk:i∈K) :
  Rep (Own O (frzS K σ)) w (.sl n' sz' g) [] v∧i<h.length:=by
 have ha':=ha
 simp only [Rep] at ha
 obtain⟨e,he,hl,a0,cap0,hv,hc0,hr0⟩:=ha
 obtain⟨ad,cap,rfl,hc,hr⟩:=xS hh ha' hs
 simp only [Value.slice.injEq] at hv
 obtain⟨rfl,rfl,rfl⟩:=hv
 refine⟨?_,by rw [← hh.len]; exact(List.getElem?_eq_some_iff.1 he).1⟩
 simp only [Rep]
 refine⟨ad,cap,rfl,hc,?_⟩
 rcases hr with hr | ⟨d,hd,hsp,hr⟩
 ·exact .inl hr
 ·refine .inr ⟨d,hd,hsp,fun j o hj ho=> ?_⟩
  obtain⟨c,h1,h2,h3⟩:=hr j o hj ho
  refine⟨?_,c,h1,h2,zj (qS K w σ) _ _ h3⟩
  rcases hr0 with hr0 | ⟨ad2,h8,h9,_⟩
  ·omega
  ·rw [hd] at h9
   cases h9
   exact(show ¬ Own O (frzS K σ) ad2.block from QV hg hh he h8 hk)
theorem u7{h:Heap}(hg:Good O w σ)(hh:HRep (Own O σ) w σ h){K:List Nat} : ∀ (d:Nat) {a a':AV} {v:Value} {k:List Nat},Rep (Own O σ) w a σ v→frzD d h a=some (a',k)→(∀ i∈k,i∈K) →
  Rep (Own O (frzS K σ)) w a' [] v∧oneA a'=true∧∀ i∈k,i<h.length
 | 0,_,_,_,_,_,hf,_=>by simp [frzD] at hf
 | d+1,a,a',v,k,ha,hf,hk=>by
  cases a with
  | osl i sz off n=>
   simp only [frzD] at hf
   split at hf
   ·rename_i n' sz' g hs
    simp only [Option.some.injEq,Prod.mk.injEq] at hf
    obtain⟨rfl,rfl⟩:=hf
    obtain⟨h1,h2⟩:=u6 hg hh ha hs (hk i (by simp))
    exact⟨h1,rfl,fun j hj=>by simp at hj; subst hj; exact h2⟩
   ·split at hf
    ·rename_i cs hb
     split at hf
     ·rename_i hlen
      split at hf
      ·rename_i cs' k' hm
       simp only [Option.some.injEq,Prod.mk.injEq] at hf
       obtain⟨rfl,rfl⟩:=hf
       simp only [Rep] at ha
       obtain⟨e,he,hl,a0,cap0,rfl,hc0,hr0⟩:=ha
       have hblk:=hh.blk i e _ he hb
       simp only [BRep] at hblk
       obtain⟨ad,vs,el,h1,h2,h3,h4⟩:=hblk
       obtain⟨h5,h6,h7,h8⟩:=uw (u7 hg hh d) h4 hm (fun j hj=>hk j (by simp [hj]))
       refine⟨?_,rfl,fun j hj=> ?_⟩
       ·simp only [Rep]
        refine⟨a0,cap0,rfl,hc0,?_⟩
        rcases hr0 with hr0 | ⟨ad2,g1,g2,cs2,el2,g3,g4⟩
        ·exact .inl (by omega)
        ·rw [h1] at g1; cases g1
         refine .inr ⟨_,g2,rfl,fun j o hj ho=>⟨(show ¬ Own O (frzS K σ) ad.block from QV hg hh he h1 (hk i (by simp))),?_⟩⟩
         have hvl:=h5.length
         have hlt:(off+j)*sz+o<cs'.length:=by
          have:(off+j+1)*sz≤(off+n)*sz:=Nat.mul_le_mul_right _ (by omega)
          rw [Nat.succ_mul] at this
          omega
         have hv:vs[(off+j)*sz+o]?=some (vs[(off+j)*sz+o]'(by omega)):=List.getElem?_eq_getElem _
         have hrep:=(zq.1 h5).2 _ _ _ (List.getElem?_eq_getElem hlt) hv
         refine⟨vs[(off+j)*sz+o]'(by omega),?_,jA (h6 _ (List.getElem_mem hlt)) hrep,?_⟩
         ·simp only [World.cell?,h3,h2,Nat.zero_add]
          have:off*sz+(j*sz+o)=(off+j)*sz+o:=by rw [Nat.add_mul]; omega
          rw [this]
          simp [hv]
         ·simp only [zg,zh]
          rw [List.getD,List.getElem?_eq_getElem hlt]
          exact hrep
       ·rcases List.mem_cons.1 hj with rfl | hj
        ·rw [← hh.len]; exact(List.getElem?_eq_some_iff.1 he).1
        ·exact h8 j hj
      ·cases hf
     ·cases hf
    ·cases hf
  | sl n sz g=>
   simp only [frzD,Option.some.injEq,Prod.mk.injEq] at hf
   obtain⟨rfl,rfl⟩:=hf
   exact⟨zj (qS K w σ) _ _ (by simpa only [Rep] using ha),rfl,by simp⟩
  | int _ _ | str _ | bool _ | nils=>
   simp only [frzD,Option.some.injEq,Prod.mk.injEq] at hf
   obtain⟨rfl,rfl⟩:=hf
   exact⟨by simpa only [Rep] using ha,rfl,by simp⟩
  | _=>simp [frzD] at hf
theorem kQ{h:Heap}(hg:Good O w σ)(hh:HRep (Own O σ) w σ h){a a':AV}{v:Value}{k K:List Nat}(ha:Rep (Own O σ) w a σ v)(hf:frz1 h a=some (a',k))(hk:∀ i∈k,i∈K) :
  Rep (Own O (frzS K σ)) w a' [] v∧oneA a'=true∧∀ i∈k,i<h.length:=by
 cases a with
 | osl i sz off n=>
  simp only [frz1] at hf
  split at hf
  ·rename_i n' sz' g hs
   simp only [Option.some.injEq,Prod.mk.injEq] at hf
   obtain⟨rfl,rfl⟩:=hf
   obtain⟨h1,h2⟩:=u6 hg hh ha hs (hk i (by simp))
   exact⟨h1,rfl,fun j hj=>by simp at hj; subst hj; exact h2⟩
  ·exact u7 hg hh 8 ha hf hk
 | ptr _ _=>simp [frz1] at hf
 | eptr _ _ _ _=>simp [frz1] at hf
 | omap _=>simp [frz1] at hf
 | agg _=>simp [frz1] at hf
 | tup _=>simp [frz1] at hf
 | opt _ _ _=>simp [frz1] at hf
 | undef=>simp [frz1] at hf
 | fn f x y=>
  match x,y,hf with
  | [],[],hf=>
   simp only [frz1,Option.some.injEq,Prod.mk.injEq] at hf
   obtain⟨rfl,rfl⟩:=hf
   refine⟨?_,rfl,by simp⟩
   simp only [Rep] at ha ⊢
   obtain⟨va,vb,hv,h1,h2⟩:=ha
   exact⟨va,vb,hv,by simpa [RepL] using h1,by simpa [RepL] using h2⟩
  | [],_::_,hf=>simp [frz1] at hf
  | _::_,_,hf=>simp [frz1] at hf
 | sl n sz g=>
  simp only [frz1,Option.some.injEq,Prod.mk.injEq] at hf
  obtain⟨rfl,rfl⟩:=hf
  exact⟨zj (qS K w σ) _ _ (by simpa only [Rep] using ha),rfl,by simp⟩
 | iptr m g=>
  simp only [frz1,Option.some.injEq,Prod.mk.injEq] at hf
  obtain⟨rfl,rfl⟩:=hf
  exact⟨zj (qS K w σ) _ _ (by simpa only [Rep] using ha),rfl,by simp⟩
 | mp k ag sz ks has get=>
  simp only [frz1,Option.some.injEq,Prod.mk.injEq] at hf
  obtain⟨rfl,rfl⟩:=hf
  exact⟨zj (qS K w σ) _ _ (by simpa only [Rep] using ha),rfl,by simp⟩
 | _=>
  simp only [frz1,Option.some.injEq,Prod.mk.injEq] at hf
  obtain⟨rfl,rfl⟩:=hf
  exact⟨by simpa only [Rep] using ha,rfl,by simp⟩
theorem w6{h:Heap}(hg:Good O w σ)(hh:HRep (Own O σ) w σ h):∀ {l l':List AV} {vs:List Value} {k K:List Nat},RepL (Own O σ) w l σ vs→frzL h l=some (l',k)→(∀ i∈k,i∈K) →
  RepL (Own O (frzS K σ)) w l' [] vs∧(∀ a∈l',oneA a=true)∧∀ i∈k,i<h.length
 | [],l',vs,k,K,hr,hf,hk=>by
  simp only [frzL,Option.some.injEq,Prod.mk.injEq] at hf
  obtain⟨rfl,rfl⟩:=hf
  exact⟨by simpa [RepL] using hr,by simp,by simp⟩
 | a::l,l',vs,k,K,hr,hf,hk=>by
  simp only [frzL] at hf
  split at hf
  ·rename_i a' i l2 k2 h1 h2
   simp only [Option.some.injEq,Prod.mk.injEq] at hf
   obtain⟨rfl,rfl⟩:=hf
   simp only [RepL] at hr ⊢
   obtain⟨v,r,rfl,h3,h4⟩:=hr
   obtain⟨h5,h6,h7⟩:=kQ hg hh h3 h1 (K:=K) (fun i hi=>hk i (by simp [hi]))
   obtain⟨h8,h9,h10⟩:=w6 hg hh h4 h2 (K:=K) (fun i hi=>hk i (by simp [hi]))
   refine⟨⟨v,r,rfl,h5,h8⟩,?_,?_⟩
   ·intro x hx
    rcases List.mem_cons.1 hx with rfl | hx
    ·exact h6
    ·exact h9 x hx
   ·intro x hx
    rcases List.mem_append.1 hx with hx | hx
    ·exact h7 x hx
    ·exact h10 x hx
  ·cases hf
end
end Go.Sx
end
section
namespace Go.Sx
variable [Stat]
open Go.RowKit (Below)
section
variable {O:Nat→Prop} {w:World} {σ:List SE} {P:Program}
theorem Hold.JB{K:List Nat}{w1 w2 w3:World}{σ1 σ2 σ3:List SE}(h:Hold K w1 σ1 w2 σ2)(k:Hold [] w2 σ2 w3 σ3):Hold K w1 σ1 w3 σ3:=by
 intro i e he hk
 obtain⟨h1,h2⟩:=h i e he hk
 obtain⟨h3,h4⟩:=k i e h1 (by simp)
 refine⟨h3,fun ad had cs el hcs=> ?_⟩
 obtain⟨cs',el',h5,h6⟩:=h2 ad had cs el hcs
 obtain⟨cs'',el'',h7,h8⟩:=h4 ad had cs' el' h5
 exact⟨cs'',el'',h7,by omega⟩
theorem ub{l:List AV} : ∀ (n i:Nat),i<n*l.length→(List.replicate n l).flatten[i]?=l[i%l.length]?
 | 0,i,h=>by simp at h
 | n+1,i,h=>by
  rw [List.replicate_succ,List.flatten_cons,List.getElem?_append]
  split
  ·rename_i hi; rw [Nat.mod_eq_of_lt hi]
  ·rename_i hi
   rw [ub n _ (by rw [Nat.succ_mul] at h; omega)]
   congr 1
   rw [← Nat.mod_eq_sub_mod (by omega)]
theorem XH{own:Nat→Prop}{w:World}{σ:List SE}{b:Nat}{vs:List Value}{el:TypeId}{n sz:Nat}{cs:List AV}(hm:w.heap[b]?=some (.cells vs.toArray el (0,0)))(hl:cs.length=n*sz)
  (hr:RepL own w cs [] vs) (h1:∀ a∈cs,oneA a=true):BRep own w σ ⟨some ⟨b,0,none⟩,n⟩ (.arr n sz (zh sz cs)):=by
 simp only [BRep]
 refine⟨by trivial,.inr ⟨_,_,_,rfl,hm,by simp [hr.length,hl],fun j o hj ho=> ?_⟩⟩
 have hlt:j*sz+o<cs.length:=by
  rw [hl]
  have:(j+1)*sz≤n*sz:=Nat.mul_le_mul_right _ (by omega)
  rw [Nat.succ_mul] at this; omega
 obtain⟨v,hv,hR⟩:=hr.get (List.getElem?_eq_getElem hlt)
 refine⟨v,by simpa using hv,jA (h1 _ (List.getElem_mem hlt)) hR,?_⟩
 simp only [zh,List.getD,List.getElem?_eq_getElem hlt,Option.getD_some]
 exact hR
theorem uh{h:Heap}(hg:Good O w σ)(hh:HRep (Own O σ) w σ h){t e:TypeId}{len sz:Nat}{parts:Array (Nat×Operand)}{zs cs:List AV}{ρ:Operand→AV}{ρc:Operand→Value}(hρ:∀ x,Rep (Own O σ) w (ρ x) σ (ρc x))
  (hu:P.underlying t=some (.slice e)) (hz:zeroCells P e=some zs) (hs:zS P e=some sz) (hlen:len*sz≤16777216) (hzl:zs.length=sz)
  (hf:w7 (fun i=>some (i*sz,sz)) (List.replicate len zs).flatten (parts.toList.map fun p=>(p.1,ρ p.2))=some cs) :
  ∃ v w' σ',(Instr.buildSlice t len (parts.map fun(i,x)=>(i,ρc x))).run P w = .ok v w'∧Post O w σ h ⟨.osl h.length sz 0 len,[(h.length,.box cs)],[]⟩ v w' σ':=by
 obtain⟨zv,hzv,hzr⟩:=wC (P:=P) (own:=Own O σ) (w:=w) (σ:=σ) hz
 have hzsz:zv.cells.size=sz:=by have:=hzr.length; simpa [hzl] using this
 have hparts:∀ (i:Nat) (p:Nat×AV) (q:Nat×Value),(parts.toList.map fun p=>(p.1,ρ p.2))[i]?=some p→((parts.map fun(i,x)=>(i,ρc x)).toList)[i]?=some q→p.1=q.1∧Rep (Own O σ) w p.2 σ q.2:=by
  intro i p q hp hq
  simp only [List.getElem?_map,Array.toList_map] at hp hq
  cases hx:parts.toList[i]? with
  | none=>simp [hx] at hp
  | some x=>
   simp only [hx,Option.map_some,Option.some.injEq] at hp hq
   subst hp; subst hq
   exact⟨rfl,hρ x.2⟩
 have hinit:RepL (Own O σ) w (List.replicate len zs).flatten σ ((Array.range (len*sz)).map (zv.cells[· % zv.cells.size]!)).toList:=by
  refine zq.2 ⟨by simp [hzl],fun i a v ha hv=> ?_⟩
  have hi:i<len*sz:=by
   have:=(List.getElem?_eq_some_iff.1 ha).1
   simpa [hzl] using this
  rw [ub len i (by rw [hzl]; exact hi)] at ha
  have hpos:0<sz:=by
   rcases Nat.eq_zero_or_pos sz with h0 | h0
   ·subst h0; simp at hi
   ·exact h0
  have hmod:i%sz<zv.cells.size:=by rw [hzsz]; exact Nat.mod_lt _ hpos
  have hv':zv.cells.toList[i%zs.length]?=some v:=by
   simp only [Array.toList_map,List.getElem?_map,Array.toList_range,List.getElem?_range hi,Option.map_some,Option.some.injEq] at hv
   rw [hzsz] at hv
   rw [hzl]
   have hpos':zv.cells[i%sz]! = zv.cells[i%sz]:=getElem!_pos zv.cells (i%sz) hmod
   rw [hpos'] at hv
   subst hv
   simp [List.getElem?_eq_getElem (show i%sz<zv.cells.toList.length by simpa using hmod)]
  exact(zq.1 hzr).2 _ a v ha hv'
 obtain⟨vout,h3,h4⟩:=w9 (place:=fun i=>some (i*sz,sz)) (fun i x hx=>hx) _ (parts.map fun(i,x)=>(i,ρc x)).toList _ _ cs (by simp) hparts hinit hf
 have hclen:cs.length=len*sz:=by
  have e2:=h4.length
  have e3:cs.length=(List.replicate len zs).flatten.length:=by
   have:=hinit.length
   have:∀ (parts:List (Nat×AV)) (c c':List AV),w7 (fun i=>some (i*sz,sz)) c parts=some c'→c'.length=c.length:=by
    intro parts
    induction parts with
    | nil=>intro c c' h; simp only [w7,Option.some.injEq] at h; subst h; rfl
    | cons p parts ih=>
     intro c c' h
     obtain⟨i,v⟩:=p
     simp only [w7] at h
     split at h
     ·rename_i cv hcv
      split at h
      ·rename_i hle
       rw [ih _ _ h]
       simp [setAt]; omega
      ·cases h
     ·cases h
   exact this _ _ _ hf
  simp [hzl] at e3
  omega
 refine⟨.slice (some ⟨w.heap.size,0,none⟩) len len,w.alloc (.cells vout e),σ++[⟨some ⟨w.heap.size,0,none⟩,len⟩],?_,?_⟩
 ·have hnot:¬ (len*sz>2^24):=by omega
  simp only [Instr.buildSlice,Sem.run_bind,run_underlying hu,Result.andThen_ok,zz hs,if_neg hnot]
  by_cases h0:len*sz=0
  ·have hrow:(Array.range (len*sz)).map ((#[]:Array Value)[· % (#[]:Array Value).size]!)=(Array.range (len*sz)).map (zv.cells[· % zv.cells.size]!):=by rw [h0]; simp
   rw [if_pos h0]
   simp only [Sem.run_bind,Sem.run_pure,Result.andThen_ok]
   rw [hrow,h3]
   simp [newRow]
  ·rw [if_neg h0]
   simp only [Sem.run_bind,Sem.run_pure,Result.andThen_ok,hzv]
   rw [h3]
   simp [newRow]
 ·refine⟨?_,?_,?_,?_,jI hh hg _ _,fun b _ hb=>Below.heap_alloc w _ b hb,fun i e ad he had _=>Below.heap_alloc w _ _ (hh.lt i e ad he had)⟩
  ·simp only [Rep]
   refine⟨⟨some ⟨w.heap.size,0,none⟩,len⟩,?_,by simp,_,_,rfl,Nat.le_refl _,.inr ⟨_,rfl,by simp,vout,e,heap_alloc_new w _,?_⟩⟩
   ·rw [← hh.len]; simp
   ·have:=h4.length
    simp at this ⊢; omega
  ·exact zY hh _ _
  ·simp only [zw,zi,zU,Nat.lt_irrefl,if_false]
   exact j6 hh (by
    simp only [BRep]
    exact⟨_,vout.toList,e,rfl,rfl,by simpa using heap_alloc_new w (.cells vout e),qq (zY hh _ len) (qh hh _ _) _ _ (jv _) h4⟩)
  ·exact qh hh _ _
theorem xX{h:Heap}(hg:Good O w σ)(hh:HRep (Own O σ) w σ h){t e:TypeId}{len sz:Nat}{parts:Array (Nat×Operand)}{zs cs cs':List AV}{k:List Nat}{ρ:Operand→AV}{ρc:Operand→Value}(hρ:∀ x,Rep (Own O σ) w (ρ x) σ (ρc x))
  (hu:P.underlying t=some (.slice e)) (hz:zeroCells P e=some zs) (hs:zS P e=some sz) (hlen:len*sz≤16777216) (hzl:zs.length=sz)
  (hf:w7 (fun i=>some (i*sz,sz)) (List.replicate len zs).flatten (parts.toList.map fun p=>(p.1,ρ p.2))=some cs) (hfr:frzL h cs=some (cs',k)) :
  ∃ v w' σ',(Instr.buildSlice t len (parts.map fun(i,x)=>(i,ρc x))).run P w = .ok v w'∧Post O w σ h ⟨.osl h.length sz 0 len,(h.length,.arr len sz (zh sz cs'))::j4 k,k⟩ v w' σ':=by
 obtain⟨zv,hzv,hzr⟩:=wC (P:=P) (own:=Own O σ) (w:=w) (σ:=σ) hz
 have hzsz:zv.cells.size=sz:=by have:=hzr.length; simpa [hzl] using this
 have hparts:∀ (i:Nat) (p:Nat×AV) (q:Nat×Value),(parts.toList.map fun p=>(p.1,ρ p.2))[i]?=some p→((parts.map fun(i,x)=>(i,ρc x)).toList)[i]?=some q→p.1=q.1∧Rep (Own O σ) w p.2 σ q.2:=by
  intro i p q hp hq
  simp only [List.getElem?_map,Array.toList_map] at hp hq
  cases hx:parts.toList[i]? with
  | none=>simp [hx] at hp
  | some x=>
   simp only [hx,Option.map_some,Option.some.injEq] at hp hq
   subst hp; subst hq
   exact⟨rfl,hρ x.2⟩
 have hinit:RepL (Own O σ) w (List.replicate len zs).flatten σ ((Array.range (len*sz)).map (zv.cells[· % zv.cells.size]!)).toList:=by
  refine zq.2 ⟨by simp [hzl],fun i a v ha hv=> ?_⟩
  have hi:i<len*sz:=by
   have:=(List.getElem?_eq_some_iff.1 ha).1
   simpa [hzl] using this
  rw [ub len i (by rw [hzl]; exact hi)] at ha
  have hpos:0<sz:=by
   rcases Nat.eq_zero_or_pos sz with h0 | h0
   ·subst h0; simp at hi
   ·exact h0
  have hmod:i%sz<zv.cells.size:=by rw [hzsz]; exact Nat.mod_lt _ hpos
  have hv':zv.cells.toList[i%zs.length]?=some v:=by
   simp only [Array.toList_map,List.getElem?_map,Array.toList_range,List.getElem?_range hi,Option.map_some,Option.some.injEq] at hv
   rw [hzsz] at hv
   rw [hzl]
   have hpos':zv.cells[i%sz]! = zv.cells[i%sz]:=getElem!_pos zv.cells (i%sz) hmod
   rw [hpos'] at hv
   subst hv
   simp [List.getElem?_eq_getElem (show i%sz<zv.cells.toList.length by simpa using hmod)]
  exact(zq.1 hzr).2 _ a v ha hv'
 obtain⟨vout,h3,h4⟩:=w9 (place:=fun i=>some (i*sz,sz)) (fun i x hx=>hx) _ (parts.map fun(i,x)=>(i,ρc x)).toList _ _ cs (by simp) hparts hinit hf
 obtain⟨h5,h6,h7⟩:=w6 hg hh h4 hfr (K:=k) (fun i hi=>hi)
 have hclen:cs'.length=len*sz:=by
  have e1:=h5.length
  have e2:=h4.length
  have e3:cs.length=(List.replicate len zs).flatten.length:=by
   have:=hinit.length
   have:∀ (parts:List (Nat×AV)) (c c':List AV),w7 (fun i=>some (i*sz,sz)) c parts=some c'→c'.length=c.length:=by
    intro parts
    induction parts with
    | nil=>intro c c' h; simp only [w7,Option.some.injEq] at h; subst h; rfl
    | cons p parts ih=>
     intro c c' h
     obtain⟨i,v⟩:=p
     simp only [w7] at h
     split at h
     ·rename_i cv hcv
      split at h
      ·rename_i hle
       rw [ih _ _ h]
       simp [setAt]; omega
      ·cases h
     ·cases h
   exact this _ _ _ hf
  simp [hzl] at e3
  omega
 have hh1:=wX hh k
 have hg1:=kr k hg
 refine⟨.slice (some ⟨w.heap.size,0,none⟩) len len,w.alloc (.cells vout e),frzS k σ++[⟨some ⟨w.heap.size,0,none⟩,len⟩],?_,?_⟩
 ·have hnot:¬ (len*sz>2^24):=by omega
  simp only [Instr.buildSlice,Sem.run_bind,run_underlying hu,Result.andThen_ok,zz hs,if_neg hnot]
  by_cases h0:len*sz=0
  ·have hrow:(Array.range (len*sz)).map ((#[]:Array Value)[· % (#[]:Array Value).size]!)=(Array.range (len*sz)).map (zv.cells[· % zv.cells.size]!):=by rw [h0]; simp
   rw [if_pos h0]
   simp only [Sem.run_bind,Sem.run_pure,Result.andThen_ok]
   rw [hrow,h3]
   simp [newRow]
  ·rw [if_neg h0]
   simp only [Sem.run_bind,Sem.run_pure,Result.andThen_ok,hzv]
   rw [h3]
   simp [newRow]
 ·refine⟨?_,?_,?_,?_,jI (wX hh k) hg1 _ _,fun b _ hb=>Below.heap_alloc w _ b hb,fun i e ad he had _=>Below.heap_alloc w _ _ (hh.lt i e ad he had)⟩
  ·simp only [Rep]
   refine⟨⟨some ⟨w.heap.size,0,none⟩,len⟩,?_,by simp,_,_,rfl,Nat.le_refl _,.inr ⟨_,rfl,by simp,vout,e,heap_alloc_new w _,?_⟩⟩
   ·rw [← hh.len,show σ.length=(frzS k σ).length by simp [frzS]]; simp
   ·have:=h5.length
    simp at this ⊢; omega
  ·exact(qS k w σ).trans (zY hh1 _ _)
  ·have hle:∀ i∈k,i<(zw k h++[Blk.arr len sz (zh sz cs')]).length:=fun i hi=>by simp [zC]; have:=h7 i hi; omega
   have:zi (zw k h) ((h.length,.arr len sz (zh sz cs'))::j4 k)=qM k (zw k h)++[Blk.arr len sz (zh sz cs')]:=by
    have hl:(zw k h).length=h.length:=by simp [zC]
    simp only [zi,zU,← hl,Nat.lt_irrefl,if_false]
    rw [vX _ _ (fun i hi=>hle i hi)]
    simp only [qM,List.zipIdx_append,List.map_append,List.zipIdx_singleton,List.map_cons,List.map_nil,Nat.zero_add]
    congr 2
    rw [if_neg (by simp; intro hc; have:=h7 _ hc; omega)]
   rw [this]
   exact j6 hh1 (XH (by rw [heap_alloc_new]) hclen (wx (zY hh1 _ _) _ _ h5) h6)
  ·exact(kq k w σ).JB (qh hh1 _ _)
theorem ur{K:List Nat}{w':World}{h:Heap}{i:Nat}{e e':SE}{B:Blk}(hh:HRep (Own O σ) w σ h)(he:σ[i]?=some e)(hx:Ext (Own O σ) w (Own O (σ.set i e')) w')(hold:Hold K w σ w' (σ.set i e'))
  (hother:∀ (j:Nat) (f:SE) (ad:Addr),j≠i→σ[j]?=some f→f.ad=some ad→w'.heap[ad.block]?=w.heap[ad.block]?)
  (hdis:∀ (j:Nat) (f:SE) (ad ad':Addr),j≠i→σ[j]?=some f→f.ad=some ad→e'.ad=some ad'→ad.block≠ad'.block)
  (hlt:∀ ad',e'.ad=some ad'→ad'.block<w'.heap.size) (hB:BRep (Own O (σ.set i e')) w' (σ.set i e') e' B) :
  HRep (Own O (σ.set i e')) w' (σ.set i e') (zU (zw K h) i B):=by
 have hi:i<(zw K h).length:=by simp [zC,← hh.len]; exact(List.getElem?_eq_some_iff.1 he).1
 have hget:∀ (j:Nat) (f:SE),(σ.set i e')[j]?=some f→(j=i∧f=e')∨(j≠i∧σ[j]?=some f):=by
  intro j f hf
  rw [List.getElem?_set] at hf
  split at hf
  ·rename_i hij
   split at hf
   ·exact .inl ⟨hij.symm,(Option.some.inj hf).symm⟩
   ·cases hf
  ·rename_i hij; exact .inr ⟨fun h=>hij h.symm,hf⟩
 simp only [zU,if_pos hi]
 refine⟨by simp [zC,hh.len],?_,?_,?_⟩
 ·intro j k f g a b hf hk ha hb hne
  rcases hget j f hf with ⟨e1,e2⟩ | ⟨hj,hf'⟩<;>rcases hget k g hk with ⟨e3,e4⟩ | ⟨hk',hk2⟩
  ·omega
  ·subst e2; exact fun h=>hdis k g b a hk' hk2 hb ha h.symm
  ·subst e4; exact hdis j f a b hj hf' ha hb
  ·exact hh.inj j k f g a b hf' hk2 ha hb hne
 ·intro j f a hf ha
  rcases hget j f hf with ⟨rfl,rfl⟩ | ⟨hj,hf⟩
  ·exact hlt a ha
  ·exact Nat.lt_of_lt_of_le (hh.lt j f a hf ha) hx.size
 ·intro j f b hf hb
  rcases hget j f hf with ⟨rfl,rfl⟩ | ⟨hj,hf⟩
  ·rw [List.getElem?_set_self hi] at hb
   cases hb; exact hB
  ·rw [List.getElem?_set_ne (fun h=>hj h.symm),zC,List.getElem?_map] at hb
   cases hx':h[j]? with
   | none=>simp [hx'] at hb
   | some b'=>
    simp only [hx',Option.map_some,Option.some.injEq] at hb
    subst hb
    exact q8 hx hold (hh.blk j f b' hf hx') (fun ad had=>hother j f ad hj hf had)
theorem Zx{h:Heap}(hg:Good O w σ)(hh:HRep (Own O σ) w σ h){t:TypeId}{i off n:Nat}{cells cv:List AV}{va v:Value}(ha:Rep (Own O σ) w (.ptr i off) σ va)(hb:h[i]?=some (.box cells))
  (hn:zS P t=some n) (hr:RepL (Own O σ) w cv σ v.cells.toList) (hl:cv.length=n) (hle:off+n≤cells.length) (h1:cv.all oneA=true) :
  ∃ w',(Instr.storeAt t va v).run P w = .ok () w'∧Post O w σ h ⟨.undef,[(i,.box (setAt cells off cv))],[]⟩ undef w' σ:=by
 simp only [Rep] at ha
 obtain⟨e,ad,he,had,rfl⟩:=ha
 obtain⟨ad',vs,el,had',h0,hcs,hrb⟩:=hh.blk i e _ he hb
 rw [had] at had'; cases had'
 have hlen:=hr.length
 have hlb:=hrb.length
 have hone:∀ u∈v.cells.toList,u.oneCell'=true:=by
  intro u hu
  obtain⟨j,hj,hju⟩:=List.mem_iff_getElem.1 hu
  have hj':j<cv.length:=by omega
  exact jA (List.all_eq_true.1 h1 _ (List.getElem_mem hj')) ((zq.1 hr).2 j cv[j] u (List.getElem?_eq_getElem hj') (by rw [List.getElem?_eq_getElem hj,hju]))
 have hst:=run_storeCells_at P ad.block off el v.cells.toList 0 vs.toArray w hcs (by simp at hlen ⊢; omega) hone
 simp only [Nat.add_zero,List.toList_toArray] at hst
 have hrow:(w.setRow ad.block (vs.take off++v.cells.toList++vs.drop (off+v.cells.toList.length)).toArray).heap[ad.block]?=some (.cells (vs.take off++v.cells.toList++vs.drop (off+v.cells.toList.length)).toArray el (0,0)):=setRow_heap w _ _ _ _ _ hcs
 have ht:=vY w ad.block (vs.take off++v.cells.toList++vs.drop (off+v.cells.toList.length)).toArray
 have hsz:∀ cs el,w.heap[ad.block]?=some (.cells cs el (0,0))→∃ cs' el',(w.setRow ad.block (vs.take off++v.cells.toList++vs.drop (off+v.cells.toList.length)).toArray).heap[ad.block]?=some (.cells cs' el' (0,0))∧cs'.size=cs.size:=by
  intro cs el2 h
  rw [hcs] at h; cases h
  exact⟨_,_,hrow,by simp at hlen ⊢; omega⟩
 have hown:Own O σ ad.block:=.inr ⟨e,List.mem_of_getElem? he,ad,had,rfl⟩
 refine⟨w.setRow ad.block (vs.take off++v.cells.toList++vs.drop (off+v.cells.toList.length)).toArray,?_,?_⟩
 ·simp only [Instr.storeAt,Instr.sureAddr,Sem.run_bind,Sem.run_pure,Result.andThen_ok,storeVar,zz hn]
  rw [if_neg (by simp at hlen ⊢; omega),h0,Nat.zero_add]
  exact hst
 ·refine⟨trivial,qx ht hown,?_,wv ht hsz,⟨fun b hb=>by rw [ht.size]; exact hg.old b hb,hg.dis,hg.stat.ext (qx ht hown)⟩,fun b hb _=>ht.other b (fun h=>hg.dis i e ad he had (h▸hb)),fun j f a hf ha hj=>ht.other _ (hh.inj j i f e a ad hf he ha had (by simpa using hj))⟩
  simp only [zw,zi]
  refine yd hh he had ht hsz ?_
  simp only [BRep]
  refine⟨ad,_,el,had,h0,hrow,qq (qx ht hown) (wv ht hsz) _ _ (jv _) (hrb.setAt hr (by omega))⟩
theorem xZ{h:Heap}(hg:Good O w σ)(hh:HRep (Own O σ) w σ h){t:TypeId}{i sz idx off n N:Nat}{g:Nat→Nat→AV}{cv cv':List AV}{k:List Nat}{va v:Value}(ha:Rep (Own O σ) w (.eptr i sz idx off) σ va)(hb:h[i]?=some (.arr N sz g))
  (hn:zS P t=some n) (hr:RepL (Own O σ) w cv σ v.cells.toList) (hl:cv.length=n) (hle:off+n≤sz) (hf:frzL h cv=some (cv',k)) (hk:i∉k) :
  ∃ w' σ',(Instr.storeAt t va v).run P w = .ok () w'∧Post O w σ h ⟨.undef,(i,.arr N sz (updG g idx off cv'))::j4 k,k⟩ undef w' σ':=by
 simp only [Rep] at ha
 obtain⟨e,ad,he,had,hidx,rfl⟩:=ha
 obtain⟨hen,hz | ⟨ad',cs,el,had',hcs,hsz,hrb⟩⟩:=hh.blk i e _ he hb
 ·omega
 rw [had] at had'; cases had'
 obtain⟨h5,h6,h7⟩:=w6 hg hh hr hf (K:=k) (fun i hi=>hi)
 have hlen:=h5.length
 have hlen2:=hr.length
 have hone:∀ u∈v.cells.toList,u.oneCell'=true:=by
  intro u hu
  obtain⟨j,hj,hju⟩:=List.mem_iff_getElem.1 hu
  have hj':j<cv'.length:=by omega
  exact jA (h6 _ (List.getElem_mem hj')) ((zq.1 h5).2 j cv'[j] u (List.getElem?_eq_getElem hj') (by rw [List.getElem?_eq_getElem hj,hju]))
 have hbnd:ad.off+(idx*sz+off)+v.cells.toList.length≤cs.size:=by
  have:(idx+1)*sz≤N*sz:=Nat.mul_le_mul_right _ (by omega)
  rw [Nat.succ_mul] at this; omega
 have hst:=run_storeCells_at P ad.block (ad.off+(idx*sz+off)) el v.cells.toList 0 cs w hcs (by omega) hone
 simp only [Nat.add_zero] at hst
 generalize hnew:(cs.toList.take (ad.off+(idx*sz+off))++v.cells.toList++cs.toList.drop (ad.off+(idx*sz+off)+v.cells.toList.length)).toArray=cs' at hst
 have hcs'sz:cs'.size=cs.size:=by rw [← hnew]; simp at hbnd ⊢; omega
 have hrow:(w.setRow ad.block cs').heap[ad.block]?=some (.cells cs' el (0,0)):=setRow_heap w _ _ _ _ _ hcs
 have ht:=vY w ad.block cs'
 have hszs:∀ c el2,w.heap[ad.block]?=some (.cells c el2 (0,0))→∃ c' el',(w.setRow ad.block cs').heap[ad.block]?=some (.cells c' el' (0,0))∧c'.size=c.size:=by
  intro c el2 h
  rw [hcs] at h; cases h
  exact⟨_,_,hrow,hcs'sz⟩
 have hh1:=wX hh k
 have he1:(frzS k σ)[i]?=some e:=by rw [q6,he]; simp [hk]
 have hown:Own O (frzS k σ) ad.block:=.inr ⟨e,List.mem_of_getElem? he1,ad,had,rfl⟩
 refine⟨w.setRow ad.block cs',frzS k σ,?_,?_⟩
 ·simp only [Instr.storeAt,Instr.sureAddr,Sem.run_bind,Sem.run_pure,Result.andThen_ok,storeVar,zz hn]
  rw [if_neg (by simp at hlen2 ⊢; omega)]
  exact hst
 ·refine⟨trivial,(qS k w σ).trans (qx ht hown),?_,(kq k w σ).JB (wv ht hszs),⟨fun b hb=>by rw [ht.size]; exact hg.old b hb,(kr k hg).dis,(kr k hg).stat.ext (qx ht hown)⟩,fun b hb _=>ht.other b (fun h=>hg.dis i e ad he had (h▸hb)),fun j f a hf ha hj=>ht.other _ (hh.inj j i f e a ad hf he ha had (fun h=>hj (by simp [h])))⟩
  have hil:i<h.length:=by rw [← hh.len]; exact(List.getElem?_eq_some_iff.1 he).1
  have heq:zi (zw k h) ((i,.arr N sz (updG g idx off cv'))::j4 k)=zU (qM k (zw k h)) i (.arr N sz (updG g idx off cv')):=by
   have hl1:i<(zw k h).length:=by simpa [zC] using hil
   have hl2:i<(qM k (zw k h)).length:=by simpa [qM,zC] using hil
   simp only [zi,zU,if_pos hl1,if_pos hl2]
   rw [vX _ _ (fun j hj=>by simp [zC]; exact h7 j hj)]
   apply List.ext_getElem?
   intro j
   rw [qA,List.getElem?_set,List.getElem?_set,qA]
   by_cases hij:i=j
   ·subst hij; simp [hl1,hl2,hk]
   ·simp [hij]
  rw [heq]
  refine yd hh1 he1 had ht hszs ?_
  simp only [BRep]
  refine⟨hen,.inr ⟨ad,cs',el,had,hrow,by omega,fun j o hj ho=> ?_⟩⟩
  obtain⟨c,h8,h9,h10⟩:=hrb j o hj ho
  have hx:=(qS k w σ).trans (qx ht hown)
  have hpos:∀ p:Nat,cs'[p]?=if ad.off+(idx*sz+off)≤p∧p<ad.off+(idx*sz+off)+v.cells.toList.length then v.cells.toList[p - (ad.off+(idx*sz+off))]? else cs[p]?:=by
   intro p
   rw [← hnew]
   simp only [List.getElem?_toArray,List.getElem?_append,List.length_append,List.length_take,Array.length_toList]
   have hmin:min (ad.off+(idx*sz+off)) cs.size=ad.off+(idx*sz+off):=by omega
   rw [hmin]
   by_cases c1:p<ad.off+(idx*sz+off)
   ·rw [if_pos (by omega),if_pos c1,if_neg (by omega)]
    rw [List.getElem?_take,if_pos c1,Array.getElem?_toList]
   ·by_cases c2:p<ad.off+(idx*sz+off)+v.cells.size
    ·rw [if_pos (by simpa using c2),if_neg c1,if_pos ⟨by omega,by simpa using c2⟩]
    ·rw [if_neg (by simpa using c2),if_neg (by simp; omega),List.getElem?_drop,Array.getElem?_toList]
     congr 1
     have:v.cells.toList.length=v.cells.size:=by simp
     omega
  by_cases hc:j=idx∧off≤o∧o<off+cv'.length
  ·obtain⟨rfl,ho1,ho2⟩:=hc
   have hlt:o - off<cv'.length:=by omega
   obtain⟨u,hu,hR⟩:=h5.get (List.getElem?_eq_getElem hlt)
   refine⟨u,?_,jA (h6 _ (List.getElem_mem hlt)) hR,?_⟩
   ·rw [hpos,if_pos ⟨by omega,by omega⟩]
    rw [← hu]; congr 1; omega
   ·simp only [updG,ho1,ho2,and_self,if_true]
    rw [show cv'.getD (o - off) .undef=cv'[o - off] by simp [List.getD,hlt]]
    exact zj (qx ht hown) _ _ hR
  ·refine⟨c,?_,h9,?_⟩
   ·rw [hpos,if_neg,h8]
    rintro⟨a1,a2⟩
    apply hc
    have hjo:j=idx:=by
     rcases Nat.lt_trichotomy j idx with hlt | heq | hgt
     ·have:(j+1)*sz≤idx*sz:=Nat.mul_le_mul_right _ (by omega)
      rw [Nat.succ_mul] at this; omega
     ·exact heq
     ·have:(idx+1)*sz≤j*sz:=Nat.mul_le_mul_right _ (by omega)
      rw [Nat.succ_mul] at this; omega
    subst hjo
    exact⟨rfl,by omega,by omega⟩
   ·simp only [updG,if_neg hc]
    exact zj hx _ _ h10
end
end Go.Sx
end
section
namespace Go.Sx
variable [Stat]
open Go.RowKit (Below)
section
variable {O:Nat→Prop} {w:World} {σ:List SE} {P:Program}
theorem vE{own:Nat→Prop}{w:World}{t:TypeId}{i:TypeInfo}{cs:List AV}(h:zeroCells P t=some cs)(hi:P.info? t=some i):∃ v,i.zero=some v∧RepL own w cs [] v.cells.toList:=by
 unfold zeroCells at h
 rw [hi] at h
 simp only at h
 split at h
 ·rename_i v hv
  exact⟨v,hv,qf h (jU v)⟩
 ·cases h
theorem X0{z:Array Value}{n k:Nat}(hk:k<n)(hz:k%z.size<z.size):(madeCells z n)[k]?=z[k%z.size]?:=by
 have h0:z[k%z.size]! = z[k%z.size]:=getElem!_pos z (k%z.size) hz
 simp [madeCells,hk,h0,hz]
theorem yu{h:Heap}(hg:Good O w σ)(hh:HRep (Own O σ) w σ h){t e:TypeId}{i:TypeInfo}{z:List AV}{kl kc:IntKind}{l c:Int}(hu:P.underlying t=some (.slice e))(hi0:P.info? e=some i)(hz:zeroCells P e=some z)
  (hzl:z.length=i.size) (hz1:z.all oneA=true) (h0:0≤l) (hlc:l≤c) (hc:inR .i64 c) (hb:c.toNat*i.bytes≤qT) :
  ∃ v w' σ',(Instr.makeSlice t (.int kl l) (.int kc c)).run P w = .ok v w'∧Post O w σ h ⟨.osl h.length i.size 0 l.toNat,[(h.length,.arr l.toNat i.size (x1 z))],[]⟩ v w' σ':=by
 obtain⟨zv,hzv,hzr0⟩:=vE (own:=Own O σ) (w:=w) hz hi0
 obtain⟨zv',hzv',hzr⟩:=vE (own:=Own O (σ++[⟨some ⟨w.heap.size,0,none⟩,l.toNat⟩])) (w:=w.alloc (.cells (madeCells zv.cells (c.toNat*i.size)) e)) hz hi0
 rw [hzv] at hzv'; cases hzv'
 have hzs:zv.cells.size=i.size:=by have:=hzr.length; simpa [hzl] using this
 have hbytes:(i.bytes:Int)*c≤281474976710656:=by
  have h1:(i.bytes:Int)*c=((c.toNat*i.bytes:Nat):Int):=by
   rw [Int.natCast_mul,Int.toNat_of_nonneg (by omega),Int.mul_comm]
  rw [h1]; unfold qT at hb; omega
 have hc':c≤9223372036854775807:=hc.2
 have hr:=run_make (P:=P) w t e i zv hu hi0 hzv kl kc l c h0 hlc hbytes hc'
 have hlc':l.toNat≤c.toNat:=by omega
 refine⟨_,_,σ++[⟨some ⟨w.heap.size,0,none⟩,l.toNat⟩],hr,?_,zY hh _ _,?_,qh hh _ _,jI hh hg _ _,fun b _ hb=>Below.heap_alloc w _ b hb,fun i e ad he had _=>Below.heap_alloc w _ _ (hh.lt i e ad he had)⟩
 ·simp only [Rep]
  refine⟨⟨some ⟨w.heap.size,0,none⟩,l.toNat⟩,?_,by simp,_,_,rfl,hlc',.inr ⟨_,rfl,by simp,_,e,heap_alloc_new w _,?_⟩⟩
  ·rw [← hh.len]; simp
  ·simp [size_madeCells]
 ·simp only [zw,zi,zU,Nat.lt_irrefl,if_false]
  refine j6 hh ?_
  simp only [BRep]
  refine⟨by trivial,.inr ⟨_,_,e,rfl,heap_alloc_new w _,?_,fun j o hj ho=> ?_⟩⟩
  ·simp [size_madeCells]; exact Nat.mul_le_mul_right _ hlc'
  ·have hk:j*i.size+o<c.toNat*i.size:=by
    have:(j+1)*i.size≤c.toNat*i.size:=Nat.mul_le_mul_right _ (by omega)
    rw [Nat.succ_mul] at this; omega
   have hmod:(j*i.size+o)%zv.cells.size=o:=by
    rw [hzs,Nat.mul_comm,Nat.mul_add_mod]; exact Nat.mod_eq_of_lt ho
   have ho':o<z.length:=by omega
   obtain⟨u,hu',hR⟩:=hzr.get (List.getElem?_eq_getElem ho')
   refine⟨u,?_,jA (List.all_eq_true.1 hz1 _ (List.getElem_mem ho')) hR,?_⟩
   ·simp only [Nat.zero_add]
    rw [X0 hk (by rw [hmod,hzs]; exact ho),hmod]
    simpa using hu'
   ·simp only [x1,List.getD,List.getElem?_eq_getElem ho',Option.getD_some]
    exact hR
theorem yf{h:Heap}(hh:HRep (Own O σ) w σ h){tx e' sz n:Nat}{g:Nat→Nat→AV}{a:AV}{va:Value}(hu:P.underlying tx=some (.slice e'))(ha:Rep (Own O σ) w a σ va)(hs:QD sz h a=some (n,g)) :
  ∃ news,Src P sz tx va n news w∧∀ j o,j<n→o<sz→∃ c,news[j*sz+o]?=some c∧c.oneCell'=true∧Rep (Own O σ) w (g j o) [] c:=by
 have key:∀ sz',sz'=sz∨n=0→qJ h a=some (n,sz',g)→∃ news,Src P sz tx va n news w∧∀ j o,j<n→o<sz→∃ c,news[j*sz+o]?=some c∧c.oneCell'=true∧Rep (Own O σ) w (g j o) [] c:=by
  intro sz' hsz hs
  obtain⟨ad,cap,rfl,hc,hr⟩:=xS hh ha hs
  by_cases hn:n=0
  ·subst hn
   refine⟨[],?_,fun j o hj=>by omega⟩
   cases ad with
   | none=>exact Src.ofNil w hu cap
   | some d=>exact Src.ofSlice w hu d 0 cap [] (by simp) (by simp) (by simp)
  ·have hsz:sz'=sz:=by omega
   subst hsz
   rcases hr with hr | ⟨d,rfl,hsp,hr⟩
   ·exact absurd hr hn
   by_cases hz:sz'=0
   ·subst hz
    exact⟨[],Src.ofSlice w hu d n cap [] (by simp) (by simp) (by simp),fun j o _ ho=>by omega⟩
   have hpos:0<sz':=by omega
   obtain⟨f,hf⟩:=Classical.axiomOfChoice (r:=fun(k:Nat) c=>k<n*sz'→w.cell? ⟨d.block,d.off+k,none⟩=some c∧c.oneCell'=true∧Rep (Own O σ) w (g (k/sz') (k%sz')) [] c)
    (fun k=>by
     by_cases hk:k<n*sz'
     ·obtain⟨c,h1,h2,h3⟩:=hr (k/sz') (k%sz') (by rw [Nat.div_lt_iff_lt_mul hpos]; exact hk) (Nat.mod_lt _ hpos)
      exact⟨c,fun _=>⟨by rw [← h1]; congr 3; rw [Nat.mul_comm]; exact(Nat.div_add_mod k sz').symm,h2,h3⟩⟩
     ·exact⟨undef,fun h=>absurd h hk⟩)
   refine⟨(List.range (n*sz')).map f,Src.ofSlice w hu d n cap _ (by simp) (fun j u hj=> ?_) (fun u hu=> ?_),fun j o hj ho=> ?_⟩
   ·by_cases hjn:j<n*sz'
    ·simp [hjn] at hj; subst hj
     rw [add_plain hsp]; exact(hf j hjn).1
    ·simp [hjn] at hj
   ·obtain⟨k,hk,rfl⟩:=List.mem_map.1 hu
    exact(hf k (by simpa using hk)).2.1
   ·have hk:j*sz'+o<n*sz':=by
     have:(j+1)*sz'≤n*sz':=Nat.mul_le_mul_right _ (by omega)
     rw [Nat.succ_mul] at this; omega
    obtain⟨h1,h2,h3⟩:=hf _ hk
    refine⟨f (j*sz'+o),by simp [hk],h2,?_⟩
    have e1:(j*sz'+o)/sz'=j:=by rw [Nat.mul_comm,Nat.mul_add_div hpos,Nat.div_eq_of_lt ho,Nat.add_zero]
    have e2:(j*sz'+o)%sz'=o:=by rw [Nat.mul_comm,Nat.mul_add_mod]; exact Nat.mod_eq_of_lt ho
    rw [e1,e2] at h3
    exact h3
 cases a with
 | nils=>
  simp only [QD,Option.some.injEq,Prod.mk.injEq] at hs
  obtain⟨rfl,rfl⟩:=hs
  exact key 0 (.inr rfl) rfl
 | _=>
  simp only [QD] at hs
  split at hs
  ·rename_i n' sz' g' hs'
   split at hs
   ·rename_i hz
    simp only [Option.some.injEq,Prod.mk.injEq] at hs
    obtain⟨rfl,rfl⟩:=hs
    exact key sz' (.inl hz) hs'
   ·cases hs
  ·cases hs
theorem Zc{t tx ty e:TypeId}{i:TypeInfo}{b o sLen sCap:Nat}{cur:Array Value}{el:TypeId}{x:Value}{n:Nat}{news:List Value}(ht:P.underlying t=some (.slice e))(hi:P.info? e=some i)(hs:Src P i.size tx x n news w)
  (hroom:sLen+n≤sCap) (hcur:w.heap[b]?=some (.cells cur el (0,0))) (hfit:o+sLen*i.size+news.length≤cur.size) :
  (Builtin.append_ #[t,tx] ty #[.slice (some ⟨b,o,none⟩) sLen sCap,x]).run P w = .ok (.slice (some ⟨b,o,none⟩) (sLen+n) sCap) (w.setRow b (cur.toList.take (o+sLen*i.size)++news++cur.toList.drop (o+sLen*i.size+news.length)).toArray):=by
 have hst:=run_storeCells_at P b (o+sLen*i.size) el news 0 cur w hcur (by omega) hs.one
 simp only [Nat.add_zero] at hst
 rcases hs.kind with ⟨e',hk⟩ | hk<;>simp [Builtin.append_,run_underlying ht,run_underlying hk,sizeOf,typeInfo,hi,hs.len,hroom,hs.cells,Addr.add_lit,hst]
theorem vR{t tx ty e:TypeId}{i:TypeInfo}{base:Option Addr}{x:Value}(ht:P.underlying t=some (.slice e))(hi:P.info? e=some i)(hs:Src P i.size tx x 0 [] w)(sCap:Nat)(sLen:Nat)(hl:sLen≤sCap) :
  (Builtin.append_ #[t,tx] ty #[.slice base sLen sCap,x]).run P w = .ok (.slice base sLen sCap) w:=by
 rcases hs.kind with ⟨e',hk⟩ | hk<;>cases base<;>simp [Builtin.append_,run_underlying ht,run_underlying hk,sizeOf,typeInfo,hi,hs.len,hl,hs.cells,storeCells]
theorem Zw{h:Heap}(hh:HRep (Own O σ) w σ h):HRep (Own O σ) w.drew σ h:=by
 have hx:Ext (Own O σ) w (Own O σ) w.drew:=⟨rfl,rfl,rfl,Nat.le_refl _,fun _ _ _=>rfl,fun _ h=>.inl h⟩
 have ho:Hold [] w σ w.drew σ:=fun i e he _=>⟨he,fun ad had cs el hcs=>⟨cs,el,hcs,rfl⟩⟩
 refine⟨hh.len,hh.inj,hh.lt,fun i e b he hb=> ?_⟩
 have:=q8 hx ho (hh.blk i e b he hb) (fun _ _=>rfl)
 rwa [qK] at this
theorem ext_nil(w:World)(σ:List SE)(n:Nat):Ext (Own O σ) w (Own O (σ++[⟨none,n⟩])) w:=by
 refine⟨rfl,rfl,rfl,Nat.le_refl _,fun _ _ _=>rfl,fun b hb=>.inl ?_⟩
 rcases hb with hb | ⟨e,he,ad,h1,h2⟩
 ·exact .inl hb
 rcases List.mem_append.1 he with he | he
 ·exact .inr ⟨e,he,ad,h1,h2⟩
 ·simp at he; subst he; simp at h1
theorem WI{h:Heap}(hg:Good O w σ)(hh:HRep (Own O σ) w σ h)(sz:Nat)(g:Nat→Nat→AV) :
  HRep (Own O (σ++[⟨none,0⟩])) w (σ++[⟨none,0⟩]) (h++[.arr 0 sz g])∧Good O w (σ++[⟨none,0⟩])∧Hold [] w σ w (σ++[⟨none,0⟩]):=by
 have hget:∀ (i:Nat) (e:SE),(σ++[(⟨none,0⟩:SE)])[i]?=some e→σ[i]?=some e∨(i=σ.length∧e=⟨none,0⟩):=by
  intro i e he
  rw [List.getElem?_append] at he
  split at he
  ·exact .inl he
  ·right
   have:i - σ.length=0:=by
    have:=(List.getElem?_eq_some_iff.1 he).1
    simp at this; omega
   rw [this] at he
   simp at he
   exact⟨by omega,he.symm⟩
 have hold:Hold [] w σ w (σ++[⟨none,0⟩]):=fun i e he _=>⟨by rw [List.getElem?_append_left (List.getElem?_eq_some_iff.1 he).1]; exact he,fun ad had cs el hcs=>⟨cs,el,hcs,rfl⟩⟩
 refine⟨⟨by simp [hh.len],?_,?_,?_⟩,⟨hg.old,?_,hg.stat.ext (ext_nil w σ 0)⟩,hold⟩
 ·intro i j e f a b he hf ha hb hne
  rcases hget i e he with he | ⟨_,rfl⟩
  ·rcases hget j f hf with hf | ⟨_,rfl⟩
   ·exact hh.inj i j e f a b he hf ha hb hne
   ·cases hb
  ·cases ha
 ·intro i e a he ha
  rcases hget i e he with he | ⟨_,rfl⟩
  ·exact hh.lt i e a he ha
  ·cases ha
 ·intro i e b he hb
  rcases hget i e he with he | ⟨hi,rfl⟩
  ·rw [List.getElem?_append_left (by rw [← hh.len]; exact(List.getElem?_eq_some_iff.1 he).1)] at hb
   have:=q8 (ext_nil w σ 0) hold (hh.blk i e b he hb) (fun _ _=>rfl)
   rwa [qK] at this
  ·rw [List.getElem?_append_right (by rw [← hh.len]; omega),← hh.len,hi] at hb
   simp at hb
   subst hb
   simp [BRep]
 ·intro i e ad he had
  rcases hget i e he with he | ⟨_,rfl⟩
  ·exact hg.dis i e ad he had
  ·cases had
theorem Q2{h:Heap}(hg:Good O w σ)(hh:HRep (Own O σ) w σ h){t tx ty:TypeId}{s x:AV}{vs vx:Value}{Q:Res→Prop}(hs:Rep (Own O σ) w s σ vs)(hx:Rep (Own O σ) w x σ vx)(hq:(Qm P h t tx s x).holds Q) :
  ∃ r v w' σ',(Builtin.append_ #[t,tx] ty #[vs,vx]).run P w = .ok v w'∧Q r∧Post O w σ h r v w' σ':=by
 simp only [Qm] at hq
 split at hq
 ·rename_i e e' hu hu'
  split at hq
  ·rename_i i hi
   split at hq
   ·exact hq.elim
   ·rename_i hne
    have hb0:i.bytes≠0:=fun h=>hne (.inl h)
    obtain⟨z,hz,hzs⟩:∃ z,i.zero=some z∧z.cells.size=i.size:=by
     cases hz:zeroCells P e with
     | none=>exact absurd (.inr (by simp [hz])) hne
     | some zs=>
      by_cases hzl:zs.length=i.size
      ·obtain⟨z,h1,h2⟩:=vE (own:=Own O σ) (w:=w) hz hi
       exact⟨z,h1,by have:=h2.length; simpa [hzl] using this⟩
      ·exact absurd (.inr (by simp [hz,hzl])) hne
    have hroomlen:∀ m:Nat,m*i.bytes≤qT→m≤140737488355328:=fun m hm=>by
     have:m*1≤m*i.bytes:=Nat.mul_le_mul_left _ (by omega)
     unfold qT at hm; omega
    split at hq
    ·
     rename_i n2 g2 hsx
     obtain⟨hroom,hq⟩:=hq
     have hq:=hq hroom
     simp only [Rep] at hs
     subst hs
     obtain⟨news,hsrc,hnews⟩:=yf hh hu' hx hsx
     by_cases hn:n2=0
     ·subst hn
      have:news=[]:=by have:=hsrc.newsLen; simpa using this
      subst this
      obtain⟨k1,k2,k3⟩:=WI hg hh i.size g2
      refine⟨_,.slice none 0 0,w,σ++[⟨none,0⟩],vR hu hi hsrc 0 0 (Nat.le_refl _),hq,?_,ext_nil w σ 0,?_,k3,k2,fun _ _ _=>rfl,fun _ _ _ _ _ _=>rfl⟩
      ·simp only [Rep]
       exact⟨⟨none,0⟩,by rw [← hh.len]; simp,by simp,none,0,rfl,Nat.le_refl _,.inl rfl⟩
      ·simp only [zw,zi,zU,Nat.lt_irrefl,if_false]
       exact k1
     ·have hlen:=hroomlen n2 hroom
      have hrun:=run_append_grow_src (P:=P) w t tx e (ty:=ty) i z hu hi hz none 0 0 [] (by simp [Builtin.firstCells]) vx n2 news hsrc (by omega) (by omega) (growslice_fits (by omega) (by simpa [qT] using hroom))
      simp only [Nat.zero_add] at hrun
      have hh':=Zw hh
      have hg':Good O w.drew σ:=⟨hg.old,hg.dis,hg.stat.ext ⟨rfl,rfl,rfl,Nat.le_refl _,fun _ _ _=>rfl,fun _ h=>.inl h⟩⟩
      have hnl:=hsrc.newsLen
      refine⟨_,_,_,σ++[⟨some ⟨w.drew.heap.size,0,none⟩,n2⟩],hrun,hq,?_,?_,?_,qh hh' _ _,jI hh' hg' _ _,fun b _ hb=>Below.heap_alloc w.drew _ b hb,fun i e ad he had _=>Below.heap_alloc w.drew _ _ (hh.lt i e ad he had)⟩
      ·simp only [Rep]
       refine⟨⟨some ⟨w.drew.heap.size,0,none⟩,n2⟩,by rw [← hh.len]; simp,by simp,_,_,rfl,grownCap_ge w n2 0 e,.inr ⟨_,rfl,by simp,_,e,heap_alloc_new w.drew _,?_⟩⟩
       simp only [Nat.zero_add]
       simp only [Array.size_append,List.size_toArray,List.nil_append,hnl,size_zeroCells,hzs]
       have hge:=grownCap_ge w n2 0 e
       rw [← Nat.add_mul]
       exact Nat.mul_le_mul_right _ (by omega)
      ·have:=zY hh' (.cells (([]++news).toArray++Builtin.zeroCells z.cells (grownCap w n2 0 e - n2)) e) n2
       exact⟨this.os,this.tape,this.output,this.size,this.keep,this.grow⟩
      ·simp only [zw,zi,zU,Nat.lt_irrefl,if_false]
       refine j6 hh' ?_
       simp only [BRep]
       refine⟨by trivial,.inr ⟨_,_,e,rfl,heap_alloc_new w.drew _,by simp [hnl],fun j o hj ho=> ?_⟩⟩
       obtain⟨c,h1,h2,h3⟩:=hnews j o hj ho
       refine⟨c,?_,h2,zj (zY hh' _ _) _ _ (zj (w1:=w) (w2:=w.drew) (o1:=Own O σ) (o2:=Own O σ) ⟨rfl,rfl,rfl,Nat.le_refl _,fun _ _ _=>rfl,fun _ h=>.inl h⟩ _ _ h3)⟩
       have hlt:=(List.getElem?_eq_some_iff.1 h1).1
       simp only [Nat.zero_add,List.nil_append]
       rw [Array.getElem?_append_left (by simpa using hlt)]
       simpa using h1
    ·
     rename_i n2 g2 b sz off n hsx
     split at hq
     ·rename_i n' sz' g hb
      split at hq
      ·rename_i hsz
       obtain⟨rfl,hsz2⟩:=hsz
       subst hsz2
       obtain⟨hsd,hq⟩:=hq
       have hQ:=hq hsd
       clear hq
       obtain⟨rfl,hnn,hroom⟩:=hsd
       have hq:=hQ
       obtain⟨news,hsrc,hnews⟩:=yf hh hu' hx hsx
       have hs0:=hs
       simp only [Rep] at hs
       obtain⟨e0,he,hl,a,cap,rfl,hcap,hr⟩:=hs
       obtain⟨hen,hblk⟩:=hh.blk b e0 _ he hb
       have hbl:b<h.length:=by rw [← hh.len]; exact(List.getElem?_eq_some_iff.1 he).1
       have hnl:=hsrc.newsLen
       by_cases hroom2:n+n2≤cap
       ·by_cases hn2:n2=0
        ·
         subst hn2
         have:news=[]:=by simpa using hnl
         subst this
         have hown':∀ k,Own O (σ.set b ⟨e0.ad,n⟩) k→Own O σ k:=by
          rintro k (hk | ⟨x,hx,ad,h1,h2⟩)
          ·exact .inl hk
          ·rcases List.mem_or_eq_of_mem_set hx with hx | rfl
           ·exact .inr ⟨x,hx,ad,h1,h2⟩
           ·exact .inr ⟨e0,List.mem_of_getElem? he,ad,h1,h2⟩
         have hold:Hold [b] w σ w (σ.set b ⟨e0.ad,n⟩):=by
          intro j f hf hj
          have hjb:b≠j:=fun h=>hj (by simp [h])
          exact⟨by rw [List.getElem?_set_ne hjb]; exact hf,fun ad _ cs el hcs=>⟨cs,el,hcs,rfl⟩⟩
         have hext:Ext (Own O σ) w (Own O (σ.set b ⟨e0.ad,n⟩)) w:=⟨rfl,rfl,rfl,Nat.le_refl _,fun _ _ _=>rfl,fun k hk=>.inl (hown' k hk)⟩
         refine⟨_,_,w,σ.set b ⟨e0.ad,n⟩,vR hu hi hsrc cap n hcap,hq,?_,hext,?_,hold,?_,fun _ _ _=>rfl,fun _ _ _ _ _ _=>rfl⟩
         ·simp only [Rep]
          exact⟨⟨e0.ad,n⟩,by rw [List.getElem?_set_self (by rw [hh.len]; exact hbl)],by simp,a,cap,rfl,hcap,hr⟩
         ·simp only [zi]
          refine ur hh he hext hold (fun _ _ _ _ _ _=>rfl) (fun j f a a' hj hf ha ha'=>hh.inj j b f e0 a a' hf he ha ha' hj) (fun ad had=>hh.lt b e0 ad he had) ?_
          simp only [BRep]
          refine⟨rfl,?_⟩
          rcases hblk with hz0 | ⟨ad,cs,el,had,hcs,hsz,hrb⟩
          ·exact .inl (by omega)
          ·have:(n+0)*i.size≤n'*i.size:=Nat.mul_le_mul_right _ (by omega)
           refine .inr ⟨ad,cs,el,had,hcs,by omega,fun j o hj ho=> ?_⟩
           obtain⟨c,h1,h2,h3⟩:=hrb j o (by omega) ho
           exact⟨c,h1,h2,by simp only [appG,if_pos (show j<n by omega)]; exact zj hext _ _ h3⟩
         ·refine⟨hg.old,fun j f ad hf ha=> ?_,hg.stat.ext hext⟩
          by_cases hjb:b=j
          ·subst hjb
           rw [List.getElem?_set_self (by rw [hh.len]; exact hbl)] at hf
           cases hf
           exact hg.dis b e0 ad he ha
          ·rw [List.getElem?_set_ne hjb] at hf
           exact hg.dis j f ad hf ha
        ·
         rcases hr with hr | ⟨ad,had,rfl,cs,el,hcs,hsz⟩
         ·omega
         have hle:(n+n2)*i.size≤cap*i.size:=Nat.mul_le_mul_right _ hroom2
         simp only [Nat.zero_add,Nat.zero_mul,Nat.add_zero] at hsz
         rw [Nat.add_mul] at hle
         have hrun:=Zc (P:=P) (w:=w) (ty:=ty) (b:=ad.block) (o:=ad.off+0*i.size) (sLen:=n) (sCap:=cap) hu hi hsrc hroom2 hcs (by rw [hnl]; omega)
         simp only [Nat.zero_mul,Nat.add_zero] at hrun
         generalize hnew:(cs.toList.take (ad.off+n*i.size)++news++cs.toList.drop (ad.off+n*i.size+news.length)).toArray=cs' at hrun
         have hcs'sz:cs'.size=cs.size:=by rw [← hnew]; simp [hnl]; omega
         have hrow:(w.setRow ad.block cs').heap[ad.block]?=some (.cells cs' el (0,0)):=setRow_heap w _ _ _ _ _ hcs
         have ht:=vY w ad.block cs'
         have hszs:∀ c el2,w.heap[ad.block]?=some (.cells c el2 (0,0))→∃ c' el',(w.setRow ad.block cs').heap[ad.block]?=some (.cells c' el' (0,0))∧c'.size=c.size:=by
          intro c el2 h
          rw [hcs] at h; cases h
          exact⟨_,_,hrow,hcs'sz⟩
         have hown:Own O σ ad.block:=.inr ⟨e0,List.mem_of_getElem? he,ad,had,rfl⟩
         have hown':∀ k,Own O (σ.set b ⟨some ad,n+n2⟩) k→Own O σ k:=by
          rintro k (hk | ⟨f,hf,a,ha,rfl⟩)
          ·exact .inl hk
          rcases List.mem_or_eq_of_mem_set hf with hf | rfl
          ·exact .inr ⟨f,hf,a,ha,rfl⟩
          ·cases ha; exact hown
         have hx0:=qx ht hown
         have hext:Ext (Own O σ) w (Own O (σ.set b ⟨some ad,n+n2⟩)) (w.setRow ad.block cs'):=⟨hx0.os,hx0.tape,hx0.output,hx0.size,hx0.keep,fun k hk=>hx0.grow k (hown' k hk)⟩
         have hold:Hold [b] w σ (w.setRow ad.block cs') (σ.set b ⟨some ad,n+n2⟩):=by
          intro j f hf hj
          have hjb:b≠j:=fun h=>hj (by simp [h])
          obtain⟨h1,h2⟩:=wv ht hszs j f hf (by simp)
          exact⟨by rw [List.getElem?_set_ne hjb]; exact hf,h2⟩
         refine⟨_,_,w.setRow ad.block cs',σ.set b ⟨some ad,n+n2⟩,by simpa using hrun,hq,?_,hext,?_,hold,?_,fun k hk _=>ht.other k (fun h=>hg.dis b e0 ad he had (h▸hk)),fun j f a hf ha hj=>ht.other _ (hh.inj j b f e0 a ad hf he ha had (by simpa using hj))⟩
         ·simp only [Rep]
          exact⟨⟨some ad,n+n2⟩,by rw [List.getElem?_set_self (by rw [hh.len]; exact hbl)],by simp,_,cap,rfl,hroom2,.inr ⟨ad,rfl,by simp,cs',el,hrow,by simp; omega⟩⟩
         ·simp only [zi]
          refine ur hh he hext hold (fun j f a hj hf ha=>ht.other _ (hh.inj j b f e0 a ad hf he ha had hj)) (fun j f a a' hj hf ha ha'=>by cases ha'; exact hh.inj j b f e0 a ad hf he ha had hj) (fun a ha=>by cases ha; rw [ht.size]; exact hh.lt b e0 ad he had) ?_
          simp only [BRep]
          refine⟨by trivial,.inr ⟨ad,cs',el,rfl,hrow,by rw [hcs'sz,Nat.add_mul]; omega,fun j o hj ho=> ?_⟩⟩
          have hpos:∀ p:Nat,cs'[p]?=if ad.off+n*i.size≤p∧p<ad.off+n*i.size+news.length then news[p - (ad.off+n*i.size)]? else cs[p]?:=by
           intro p
           rw [← hnew]
           simp only [List.getElem?_toArray,List.getElem?_append,List.length_append,List.length_take,Array.length_toList]
           have hmin:min (ad.off+n*i.size) cs.size=ad.off+n*i.size:=by omega
           rw [hmin]
           by_cases c1:p<ad.off+n*i.size
           ·rw [if_pos (by omega),if_pos c1,if_neg (by omega),List.getElem?_take,if_pos c1,Array.getElem?_toList]
           ·by_cases c2:p<ad.off+n*i.size+news.length
            ·rw [if_pos c2,if_neg c1,if_pos ⟨by omega,c2⟩]
            ·rw [if_neg c2,if_neg (by omega),List.getElem?_drop,Array.getElem?_toList]
             congr 1; omega
          by_cases hjn:j<n
          ·have hj1:j*i.size+o<n*i.size:=by
            have:(j+1)*i.size≤n*i.size:=Nat.mul_le_mul_right _ (by omega)
            rw [Nat.succ_mul] at this; omega
           rcases hblk with hz0 | ⟨ad2,cs2,el2,had2,hcs2,hsz2,hrb⟩
           ·omega
           rw [had] at had2; cases had2
           rw [hcs] at hcs2; cases hcs2
           obtain⟨c,h1,h2,h3⟩:=hrb j o (by omega) ho
           refine⟨c,by rw [hpos,if_neg (by omega)]; exact h1,h2,?_⟩
           simp only [appG,if_pos hjn]
           exact zj hext _ _ h3
          ·obtain⟨c,h1,h2,h3⟩:=hnews (j - n) o (by omega) ho
           have hlt:=(List.getElem?_eq_some_iff.1 h1).1
           have e1:j*i.size=n*i.size+(j - n)*i.size:=by rw [← Nat.add_mul]; congr 1; omega
           refine⟨c,?_,h2,?_⟩
           ·rw [hpos,if_pos ⟨by omega,by omega⟩]
            rw [← h1]; congr 1; omega
           ·simp only [appG,if_neg hjn]
            exact zj hext _ _ h3
         ·refine⟨fun k hk=>by rw [ht.size]; exact hg.old k hk,fun j f a hf ha=> ?_,hg.stat.ext hext⟩
          rcases List.mem_or_eq_of_mem_set (List.mem_of_getElem? hf) with hf' | rfl
          ·obtain⟨j',hj'⟩:=List.mem_iff_getElem?.1 hf'
           exact hg.dis j' f a hj' ha
          ·cases ha; exact hg.dis b e0 ad he had
       ·
        obtain⟨olds,hsold,hold0⟩:=yf (tx:=t) (sz:=i.size) (n:=n) (g:=zg g 0) hh hu hs0 (by simp [QD,qJ,hb])
        have hol:=hsold.newsLen
        have hlen:=hroomlen _ hroom
        have hcl:(Builtin.firstCells i.size n (.slice a n cap)).run P w.drew = .ok olds.toArray w.drew:=hsold.cellsD
        have hrun:=run_append_grow_src (P:=P) w t tx e (ty:=ty) i z hu hi hz a n cap olds hcl vx n2 news hsrc (by omega) (by omega) (growslice_fits (by omega) (by simpa [qT] using hroom))
        have hh':=Zw hh
        have hg':Good O w.drew σ:=⟨hg.old,hg.dis,hg.stat.ext ⟨rfl,rfl,rfl,Nat.le_refl _,fun _ _ _=>rfl,fun _ h=>.inl h⟩⟩
        generalize hW:(Obj.cells ((olds++news).toArray++Builtin.zeroCells z.cells (grownCap w (n+n2) cap e - (n+n2))) e)=ob at hrun
        have hx0:=zY hh' ob (n+n2)
        have hown':∀ k,Own O (σ.set b ⟨some ⟨w.heap.size,0,none⟩,n+n2⟩) k→Own O σ k∨w.heap.size≤k:=by
         rintro k (hk | ⟨f,hf,a,ha,rfl⟩)
         ·exact .inl (.inl hk)
         rcases List.mem_or_eq_of_mem_set hf with hf | rfl
         ·exact .inl (.inr ⟨f,hf,a,ha,rfl⟩)
         ·cases ha; exact .inr (Nat.le_refl _)
        have hext:Ext (Own O σ) w (Own O (σ.set b ⟨some ⟨w.heap.size,0,none⟩,n+n2⟩)) (w.drew.alloc ob):=⟨hx0.os,hx0.tape,hx0.output,hx0.size,hx0.keep,hown'⟩
        have hold:Hold [b] w σ (w.drew.alloc ob) (σ.set b ⟨some ⟨w.heap.size,0,none⟩,n+n2⟩):=by
         intro j f hf hj
         have hjb:b≠j:=fun h=>hj (by simp [h])
         obtain⟨h1,h2⟩:=qh hh' ob ⟨none,0⟩ j f hf (by simp)
         exact⟨by rw [List.getElem?_set_ne hjb]; exact hf,h2⟩
        have hlast:(w.drew.alloc ob).heap[w.heap.size]?=some ob:=heap_alloc_new w.drew ob
        have hge:=grownCap_ge w (n+n2) cap e
        refine⟨_,_,w.drew.alloc ob,σ.set b ⟨some ⟨w.heap.size,0,none⟩,n+n2⟩,hrun,hq,?_,hext,?_,hold,?_,fun k _ hk=>Below.heap_alloc w.drew _ k hk,fun i e ad he had _=>Below.heap_alloc w.drew _ _ (hh.lt i e ad he had)⟩
        ·simp only [Rep]
         refine⟨⟨some ⟨w.heap.size,0,none⟩,n+n2⟩,by rw [List.getElem?_set_self (by rw [hh.len]; exact hbl)],by simp,_,_,rfl,hge,.inr ⟨⟨w.heap.size,0,none⟩,rfl,by simp,_,e,by rw [hlast,← hW],?_⟩⟩
         simp only [Nat.zero_add,Array.size_append,List.size_toArray,List.length_append,hol,hnl,size_zeroCells,hzs]
         rw [← Nat.add_mul,← Nat.add_mul]
         exact Nat.mul_le_mul_right _ (by omega)
        ·simp only [zi]
         refine ur hh he hext hold (fun j f a hj hf ha=>Below.heap_alloc w.drew ob _ (hh.lt j f a hf ha)) (fun j f a a' hj hf ha ha'=>by cases ha'; exact Nat.ne_of_lt (hh.lt j f a hf ha)) (fun a ha=>by cases ha; simp) ?_
         simp only [BRep]
         refine⟨by trivial,.inr ⟨⟨w.heap.size,0,none⟩,_,e,rfl,by rw [hlast,← hW],by simp [hol,hnl,← Nat.add_mul,Nat.add_mul],fun j o hj ho=> ?_⟩⟩
         have hd:Ext (Own O σ) w (Own O σ) w.drew:=⟨rfl,rfl,rfl,Nat.le_refl _,fun _ _ _=>rfl,fun _ h=>.inl h⟩
         by_cases hjn:j<n
         ·obtain⟨c,h1,h2,h3⟩:=hold0 j o hjn ho
          have hlt:=(List.getElem?_eq_some_iff.1 h1).1
          refine⟨c,?_,h2,?_⟩
          ·simp only [Nat.zero_add]
           rw [Array.getElem?_append_left (by simp; omega)]
           simp only [List.getElem?_toArray]
           rw [List.getElem?_append_left hlt]; exact h1
          ·simp only [appG,if_pos hjn]
           simp only [zg,Nat.zero_add] at h3
           exact zj hext _ _ h3
         ·obtain⟨c,h1,h2,h3⟩:=hnews (j - n) o (by omega) ho
          have hlt:=(List.getElem?_eq_some_iff.1 h1).1
          have e1:j*i.size=n*i.size+(j - n)*i.size:=by rw [← Nat.add_mul]; congr 1; omega
          refine⟨c,?_,h2,?_⟩
          ·simp only [Nat.zero_add]
           rw [Array.getElem?_append_left (by simp; omega)]
           simp only [List.getElem?_toArray]
           rw [List.getElem?_append_right (by omega),← h1]; congr 1; omega
          ·simp only [appG,if_neg hjn]
           exact zj hext _ _ h3
        ·refine⟨fun k hk=>by have:=hg.old k hk; simp; omega,fun j f a hf ha=> ?_,hg.stat.ext hext⟩
         rcases List.mem_or_eq_of_mem_set (List.mem_of_getElem? hf) with hf' | rfl
         ·obtain⟨j',hj'⟩:=List.mem_iff_getElem?.1 hf'
          exact hg.dis j' f a hj' ha
         ·cases ha
          intro hO
          have:=hg.old _ hO
          simp at this
      ·exact hq.elim
     ·exact hq.elim
    ·exact hq.elim
  ·exact hq.elim
 ·exact hq.elim
end
end Go.Sx
end
section
namespace Go.Sx
variable [Stat]
open Go.RowKit (Below)
def xm(P:Program)(g:Nat)(vals:Array Value)(w:World)(R:Value→World→Prop):Prop:=
 ((callFunc g vals).run P w = .ok (.enter g vals) w∧Calls P g vals w fun e w'=>∃ v,e = .returned v∧R v w') ∨
 ∃ v w',(callFunc g vals).run P w = .ok (.value v) w'∧R v w'
def jJ(Xp:List PanicEntry→Prop)(D:World→Prop)(P:Program)(g:Nat)(vals:Array Value)(w:World)(R:Value→World→Prop):Prop:=
 ((callFunc g vals).run P w = .ok (.enter g vals) w∧Calls P g vals w fun e w'=>(∃ v,e = .returned v∧R v w')∨∃ ch,e = .panicked ch∧Xp ch∧D w') ∨
 ∃ v w',(callFunc g vals).run P w = .ok (.value v) w'∧R v w'
def Mine(σ:List SE)(b:Nat):Prop:=∃ e∈σ,∃ ad,e.ad=some ad∧ad.block=b
def Died(σ:List SE)(w w':World):Prop:=Ext (Mine σ) w (fun _=>False) w'
def qk(P:Program)(g:Nat)(c:Ctr)(args:List AV)(hc:Heap)(Q:AV×Heap→Prop):Prop:=
 ∀ (O:Nat→Prop) (w:World) (σ:List SE) (vals:List Value),Good O w σ→HRep (Own O σ) w σ hc→RepL (Own O σ) w args σ vals →
  xm P g vals.toArray w fun v w'=>∃ r hs σ',Q (r,hs)∧Rep (fun b=>Own O σ' b∨(c.fresh=true∧b<w.heap.size)) w' r σ' v ∧
   HRep (fun b=>Own O σ' b∨(c.fresh=true∧b<w.heap.size)) w' σ' hs∧Good O w' σ'∧hc.length≤hs.length∧Hold (if c.jS=true then(List.range hc.length).drop c.pins else []) w σ w' σ'∧Ext (Mine σ) w (Mine σ') w'
def zf(P:Program)(g:Nat)(c:Ctr):Prop:=∀ (args:List AV) (hc:Heap) (Q:AV×Heap→Prop),(c.spec args hc).holds Q→(c.fresh=true→hc=[])→qk P g c args hc Q
def we(Xp:List PanicEntry→Prop)(P:Program)(g:Nat)(c:Ctr)(args:List AV)(hc:Heap)(Q:AV×Heap→Prop):Prop:=
 ∀ (O:Nat→Prop) (w:World) (σ:List SE) (vals:List Value),Good O w σ→HRep (Own O σ) w σ hc→RepL (Own O σ) w args σ vals →
  jJ Xp (Died σ w) P g vals.toArray w fun v w'=>∃ r hs σ',Q (r,hs)∧Rep (fun b=>Own O σ' b∨(c.fresh=true∧b<w.heap.size)) w' r σ' v ∧
   HRep (fun b=>Own O σ' b∨(c.fresh=true∧b<w.heap.size)) w' σ' hs∧Good O w' σ'∧hc.length≤hs.length∧Hold (if c.jS=true then(List.range hc.length).drop c.pins else []) w σ w' σ'∧Ext (Mine σ) w (Mine σ') w'
def qg(Xp:List PanicEntry→Prop)(P:Program)(g:Nat)(c:Ctr):Prop:=∀ (args:List AV) (hc:Heap) (Q:AV×Heap→Prop),(c.spec args hc).holds Q→(c.fresh=true→hc=[])→we Xp P g c args hc Q
theorem xm.x{Xp:List PanicEntry→Prop}{D:World→Prop}{P:Program}{g:Nat}{vals:Array Value}{w:World}{R:Value→World→Prop}(h:xm P g vals w R):jJ Xp D P g vals w R:=
 h.imp (fun h=>⟨h.1,h.2.mono fun e w' h=>.inl h⟩) id
theorem jJ.plain{D:World→Prop}{P:Program}{g:Nat}{vals:Array Value}{w:World}{R:Value→World→Prop}(h:jJ (fun _=>False) D P g vals w R):xm P g vals w R:=
 h.imp (fun h=>⟨h.1,h.2.mono fun e w' h=>h.elim id fun⟨_,_,h,_⟩=>h.elim⟩) id
theorem we.plain{P:Program}{g:Nat}{c:Ctr}{args:List AV}{hc:Heap}{Q:AV×Heap→Prop}(h:we (fun _=>False) P g c args hc Q):qk P g c args hc Q:=
 fun O w σ vals a b d=>(h O w σ vals a b d).plain
theorem zf.x{Xp:List PanicEntry→Prop}{P:Program}{g:Nat}{c:Ctr}(h:zf P g c):qg Xp P g c:=
 fun args hc Q a b O w σ vals d e f=>(h args hc Q a b O w σ vals d e f).x
theorem qg.plain{P:Program}{g:Nat}{c:Ctr}(h:qg (fun _=>False) P g c):zf P g c:=
 fun args hc Q a b=>(h args hc Q a b).plain
theorem qg.mono{Xp Xq:List PanicEntry→Prop}(hx:∀ ch,Xp ch→Xq ch){P:Program}{g:Nat}{c:Ctr}(h:qg Xp P g c):qg Xq P g c:=
 fun args hc Q a b O w σ vals d e f=>(h args hc Q a b O w σ vals d e f).imp (fun h=>⟨h.1,h.2.mono fun e w' h=>h.imp id fun⟨ch,h1,h2,h3⟩=>⟨ch,h1,hx ch h2,h3⟩⟩) id
theorem Died.mono{σ σ':List SE}{w w':World}(hs:∀ b,Mine σ' b→Mine σ b)(h:Died σ' w w'):Died σ w w':=
 ⟨h.os,h.tape,h.output,h.size,fun b hb hn=>h.keep b hb fun hm=>hn (hs b hm),fun b hb=>hb.elim⟩
theorem Died.trans{σ σ':List SE}{w w1 w':World}(h:Ext (Mine σ) w (Mine σ') w1)(k:Died σ' w1 w'):Died σ w w':=h.trans k
def mrg{α:Type} : List α→List Nat→List α→List α
 | h,[],hs=>h++hs
 | h,i::L,b::hs=>mrg (h.set i b) L hs
 | h,_::_,[]=>h
theorem vH:∀ {L:List Nat} {i j:Nat},zo L i=some j→L[j]?=some i
 | [],i,j,h=>by simp [zo] at h
 | x::L,i,j,h=>by
  simp only [zo] at h
  split at h
  ·rename_i hx; cases h; simp [hx]
  ·cases hp:zo L i with
   | none=>simp [hp] at h
   | some k=>
    simp only [hp,Option.map_some,Option.some.injEq] at h
    subst h
    simpa using vH hp
theorem qi:∀ {L:List Nat} {i:Nat},zo L i=none↔i∉L
 | [],i=>by simp [zo]
 | x::L,i=>by
  simp only [zo,List.mem_cons,not_or]
  split
  ·rename_i hx; simp [hx]
  ·rename_i hx
   rw [Option.map_eq_none_iff,qi]
   constructor
   ·exact fun h=>⟨fun e=>hx e.symm,h⟩
   ·exact fun h=>h.2
theorem w5:∀ {L:List Nat} {i j:Nat},jH L=true→L[j]?=some i→zo L i=some j
 | [],i,j,_,h=>by simp at h
 | x::L,i,0,_,h=>by simp at h; simp [zo,h]
 | x::L,i,j+1,hn,h=>by
  simp only [jH,Bool.and_eq_true,Bool.not_eq_true',List.contains_eq_mem,decide_eq_false_iff_not] at hn
  simp only [List.getElem?_cons_succ] at h
  have hne:x≠i:=fun e=>hn.1 (e▸List.mem_of_getElem? h)
  simp [zo,hne,w5 hn.2 h]
theorem yw{α:Type} : ∀ {L:List Nat} {h hs:List α},(∀ i∈L,i<h.length)→jH L=true→L.length≤hs.length→∀ k,(mrg h L hs)[k]?=match zo L k with
  | some j=>hs[j]?
  | none=>if k<h.length then h[k]? else hs[L.length+(k - h.length)]?
 | [],h,hs,_,_,_,k=>by
  simp only [mrg,zo,List.length_nil,Nat.zero_add,List.getElem?_append]
 | i::L,h,[],_,_,hl,k=>by simp at hl
 | i::L,h,b::hs,hL,hn,hl,k=>by
  simp only [jH,Bool.and_eq_true,Bool.not_eq_true',List.contains_eq_mem,decide_eq_false_iff_not] at hn
  simp only [mrg]
  rw [yw (fun j hj=>by simpa using hL j (by simp [hj])) hn.2 (by simpa using hl)]
  simp only [zo]
  by_cases hik:i=k
  ·subst hik
   rw [qi.2 hn.1]
   have:=hL i (by simp)
   simp [this]
  ·rw [if_neg hik]
   cases hp:zo L k with
   | some j=>simp
   | none=>
    simp only [Option.map_none,List.length_set,List.length_cons]
    rw [List.getElem?_set_ne hik]
    split
    ·rfl
    ·rw [show L.length+1+(k - h.length)=(L.length+(k - h.length))+1 by omega,List.getElem?_cons_succ]
theorem kK{α:Type} : ∀ {L:List Nat} {h hs:List α},L.length≤hs.length→(mrg h L hs).length=h.length+(hs.length - L.length)
 | [],h,hs,_=>by simp [mrg]
 | i::L,h,[],hl=>by simp at hl
 | i::L,h,b::hs,hl=>by
  simp only [mrg]
  rw [kK (by simpa using hl)]
  simp
theorem Qq:∀ {L:List Nat} {h hs:Heap},(∀ i∈L,i<h.length)→L.length≤hs.length→zi h (wj L h.length hs)=mrg h L hs
 | [],h,[],_,_=>by simp [wj,zi,mrg]
 | [],h,b::hs,hL,_=>by
  simp only [wj,zi,zU,Nat.lt_irrefl,if_false,mrg]
  have:=Qq (L:=[]) (h:=h++[b]) (hs:=hs) (by simp) (by simp)
  simp only [List.length_append,List.length_cons,List.length_nil,Nat.zero_add,mrg] at this
  rw [this]; simp
 | i::L,h,[],_,hl=>by simp at hl
 | i::L,h,b::hs,hL,hl=>by
  simp only [wj,zi,zU,if_pos (hL i (by simp)),mrg]
  have:=Qq (L:=L) (h:=h.set i b) (hs:=hs) (fun j hj=>by simpa using hL j (by simp [hj])) (by simpa using hl)
  simpa using this
theorem u9:∀ {L:List Nat} {d:Nat} {hs:List Blk},L.length≤hs.length→∀ i∈L,i∈(wj L d hs).map (·.1)
 | [],d,hs,_,i,h=>by cases h
 | x::L,d,[],hl,i,h=>by simp at hl
 | x::L,d,b::hs,hl,i,h=>by
  simp only [wj,List.map_cons,List.mem_cons]
  rcases List.mem_cons.1 h with rfl | h
  ·exact .inl rfl
  ·exact .inr (u9 (by simpa using hl) i h)
section
variable {O:Nat→Prop} {w:World} {σ:List SE} {P:Program} {Xp:List PanicEntry→Prop}
theorem x6{h:Heap}(hg:Good O w σ)(hh:HRep (Own O σ) w σ h){a a':AV}{v:Value}{k K:List Nat}(ha:Rep (Own O σ) w a σ v)(hf:frz h a=some (a',k))(hk:∀ i∈k,i∈K):Rep (Own O (frzS K σ)) w a' [] v:=by
 cases a with
 | agg cs=>
  simp only [frz] at hf
  split at hf
  ·rename_i cs' k' hf'
   simp only [Option.some.injEq,Prod.mk.injEq] at hf
   obtain⟨rfl,rfl⟩:=hf
   simp only [Rep] at ha ⊢
   obtain⟨vs,hv,hr⟩:=ha
   exact⟨vs,hv,(w6 hg hh hr hf' hk).1⟩
  ·cases hf
 | tup cs=>
  simp only [frz] at hf
  split at hf
  ·rename_i cs' k' hf'
   simp only [Option.some.injEq,Prod.mk.injEq] at hf
   obtain⟨rfl,rfl⟩:=hf
   simp only [Rep] at ha ⊢
   obtain⟨vs,hv,hr⟩:=ha
   exact⟨vs,hv,(w6 hg hh hr hf' hk).1⟩
  ·cases hf
 | _=>exact(kQ hg hh ha (by simpa only [frz] using hf) hk).1
theorem kF{h:Heap}(hg:Good O w σ)(hh:HRep (Own O σ) w σ h){K:List Nat} : ∀ {as:List AV} {l:List (AV×List Nat)} {vs:List Value},RepL (Own O σ) w as σ vs→as.mapM (fun a=>frz h a)=some l→(∀ p∈l,∀ i∈p.2,i∈K) →
  RepL (Own O (frzS K σ)) w (l.map (·.1)) [] vs
 | [],l,vs,hr,hl,hk=>by
  simp at hl; subst hl
  simpa [RepL] using hr
 | a::as,l,vs,hr,hl,hk=>by
  simp only [List.mapM_cons,Option.bind_eq_bind,Option.bind_eq_some_iff,Option.pure_def,Option.some.injEq] at hl
  obtain⟨p,hp,q,hq,rfl⟩:=hl
  simp only [RepL] at hr ⊢
  obtain⟨v,r,rfl,h1,h2⟩:=hr
  exact⟨v,r,rfl,x6 hg hh h1 (by simpa using hp) (fun i hi=>hk p (by simp) i hi),kF hg hh h2 hq (fun x hx=>hk x (by simp [hx]))⟩
theorem jO{own own':Nat→Prop}{w:World}{a:AV}{v:Value}{σ:List SE}(h:∀ b,own' b→own b)(hr:Rep own w a σ v):Rep own' w a σ v:=
 qa (K:=[]) (w2:=w) ⟨rfl,rfl,rfl,Nat.le_refl _,fun _ _ _=>rfl,fun b hb=>.inl (h b hb)⟩ (Hold.refl [] w σ) a v (jb a) hr
theorem jC{own:Nat→Prop}{w:World}{σ1 σ2:List SE}{f:Nat→Option Nat}(hf:∀ i j,f i=some j→σ2[j]?=σ1[i]?){a:AV}{v:Value}(h:Rep own w a σ1 v):Rep own w (ren0 f a) σ2 v:=by
 cases a with
 | osl i sz off n=>
  simp only [ren0]
  split
  ·rename_i j hj
   simp only [Rep] at h ⊢
   rw [hf i j hj]; exact h
  ·simp [Rep]
 | ptr i off=>
  simp only [ren0]
  split
  ·rename_i j hj
   simp only [Rep] at h ⊢
   rw [hf i j hj]; exact h
  ·simp [Rep]
 | eptr i sz idx off=>
  simp only [ren0]
  split
  ·rename_i j hj
   simp only [Rep] at h ⊢
   rw [hf i j hj]; exact h
  ·simp [Rep]
 | omap i=>
  simp only [ren0]
  split
  ·rename_i j hj
   simp only [Rep] at h ⊢
   rw [hf i j hj]; exact h
  ·simp [Rep]
 | fn g a b=>
  simp only [ren0]
  split
  ·simp only [Rep,RepL] at h ⊢; exact h
  ·simp [Rep]
 | agg _=>simp [ren0,Rep]
 | tup _=>simp [ren0,Rep]
 | opt _ _ _=>simp [ren0,Rep]
 | undef=>simp [ren0,Rep]
 | sl n sz g=>exact Rep.any (a:=.sl n sz g) (by simpa only [Rep] using h) _
 | iptr n g=>exact Rep.any (a:=.iptr n g) (by simpa only [Rep] using h) _
 | _=>simp only [ren0,Rep] at h ⊢; exact h
theorem RepL.map2{own:Nat→Prop}{w:World}{σ1 σ2:List SE}{f:AV→AV}(hf:∀ a v,Rep own w a σ1 v→Rep own w (f a) σ2 v){l:List AV}{vs:List Value}(h:RepL own w l σ1 vs):RepL own w (l.map f) σ2 vs:=by
 refine zq.2 ⟨by simp [h.length],fun i x u hx hu=> ?_⟩
 simp only [List.getElem?_map] at hx
 cases hl:l[i]? with
 | none=>simp [hl] at hx
 | some y=>
  simp only [hl,Option.map_some,Option.some.injEq] at hx
  subst hx
  exact hf y u ((zq.1 h).2 i y u hl hu)
theorem wz{own:Nat→Prop}{w:World}{σ1 σ2:List SE}{f:Nat→Option Nat}(hf:∀ i j,f i=some j→σ2[j]?=σ1[i]?){a:AV}{v:Value}(h:Rep own w a σ1 v):Rep own w (ren1 f a) σ2 v:=by
 cases a with
 | agg cs=>
  simp only [ren1,Rep] at h ⊢
  obtain⟨vs,hv,hr⟩:=h
  exact⟨vs,hv,hr.map2 fun a v=>jC hf⟩
 | fn g a b=>
  simp only [ren1,Rep] at h ⊢
  obtain⟨va,vb,hv,h1,h2⟩:=h
  exact⟨va,vb,hv,h1.map2 fun a v=>jC hf,h2.map2 fun a v=>jC hf⟩
 | _=>simp only [ren1]; exact jC hf h
theorem uc{own:Nat→Prop}{w:World}{σ1 σ2:List SE}{f:Nat→Option Nat}(hf:∀ i j,f i=some j→σ2[j]?=σ1[i]?){a:AV}{v:Value}(h:Rep own w a σ1 v):Rep own w (ren2 f a) σ2 v:=by
 cases a with
 | tup cs=>
  simp only [ren2,Rep] at h ⊢
  obtain⟨vs,hv,hr⟩:=h
  exact⟨vs,hv,hr.map2 fun a v=>wz hf⟩
 | fn g a b=>
  simp only [ren2,Rep] at h ⊢
  obtain⟨va,vb,hv,h1,h2⟩:=h
  exact⟨va,vb,hv,h1.map2 fun a v=>wz hf,h2.map2 fun a v=>wz hf⟩
 | _=>simp only [ren2]; exact wz hf h
theorem kV{own:Nat→Prop}{w:World}{σ1 σ2:List SE}{f:Nat→Option Nat}(hf:∀ i j,f i=some j→σ2[j]?=σ1[i]?){e:SE}{b:Blk}(h:BRep own w σ1 e b):BRep own w σ2 e (renB f b):=by
 cases b with
 | dead=>trivial
 | box cs=>
  simp only [renB,BRep] at h ⊢
  obtain⟨ad,vs,el,h1,h2,h3,h4⟩:=h
  exact⟨ad,vs,el,h1,h2,h3,h4.map2 fun a v=>wz hf⟩
 | arr n sz g=>exact h
 | arrI _ n _=>exact h
 | arrS n _=>exact h
 | map ag sh has get pe=>simp only [renB,BRep] at h ⊢; exact h
theorem um{own own':Nat→Prop}{w:World}{σ:List SE}{e:SE}{b:Blk}(ho:∀ k,own' k→own k)(h:BRep own w σ e b):BRep own' w σ e b:=by
 cases b with
 | dead=>trivial
 | box cs=>
  simp only [BRep] at h ⊢
  obtain⟨ad,vs,el,h1,h2,h3,h4⟩:=h
  refine⟨ad,vs,el,h1,h2,h3,zq.2 ⟨h4.length,fun i x u hx hu=>jO ho ((zq.1 h4).2 i x u hx hu)⟩⟩
 | arr n sz g=>
  simp only [BRep] at h ⊢
  obtain⟨h1,h2 | ⟨ad,cs,el,h3,h4,h5,h6⟩⟩:=h
  ·exact⟨h1,.inl h2⟩
  ·refine⟨h1,.inr ⟨ad,cs,el,h3,h4,h5,fun j o hj ho'=> ?_⟩⟩
   obtain⟨c,h7,h8,h9⟩:=h6 j o hj ho'
   exact⟨c,h7,h8,jO ho h9⟩
 | arrI _ n _=>
  simp only [BRep] at h ⊢
  obtain⟨h1,h2 | ⟨ad,cs,el,h3,h4,h5,h6⟩⟩:=h
  ·exact⟨h1,.inl h2⟩
  ·refine⟨h1,.inr ⟨ad,cs,el,h3,h4,h5,fun j o hj ho'=> ?_⟩⟩
   obtain⟨c,h7,h8,h9⟩:=h6 j o hj ho'
   exact⟨c,h7,h8,jO ho h9⟩
 | arrS n _=>
  simp only [BRep] at h ⊢
  obtain⟨h1,h2 | ⟨ad,cs,el,h3,h4,h5,h6⟩⟩:=h
  ·exact⟨h1,.inl h2⟩
  ·refine⟨h1,.inr ⟨ad,cs,el,h3,h4,h5,fun j o hj ho'=> ?_⟩⟩
   obtain⟨c,h7,h8,h9⟩:=h6 j o hj ho'
   exact⟨c,h7,h8,jO ho h9⟩
 | map ag sh has get pe=>
  simp only [BRep] at h ⊢
  obtain⟨ad,es,clock,l,h1,h2,h3,h4,h5,h6⟩:=h
  exact⟨ad,es,clock,l,h1,h2,h3,h4,h5,h6.ext ⟨rfl,rfl,rfl,Nat.le_refl _,fun _ _ _=>rfl,fun b hb=>.inl (ho b hb)⟩⟩
theorem zu{b:Nat} : Mine σ b↔∃ (i:Nat) (e:SE) (ad:Addr),σ[i]?=some e∧e.ad=some ad∧ad.block=b:=by
 constructor
 ·rintro⟨e,he,ad,h1,h2⟩
  obtain⟨i,hi⟩:=List.mem_iff_getElem?.1 he
  exact⟨i,e,ad,hi,h1,h2⟩
 ·rintro⟨i,e,ad,hi,h1,h2⟩
  exact⟨e,List.mem_of_getElem? hi,ad,h1,h2⟩
theorem u5{h:Heap}(hg:Good O w σ)(hh:HRep (Own O σ) w σ h){L:List Nat}(hL:∀ i∈L,i<h.length)(hn:jH L=true){σc σ':List SE}(hσc:∀ j:Nat,σc[j]?=(L[j]?).bind fun i=>σ[i]?)
  {own':Nat→Prop} {w':World} {r:AV} {v:Value} {hs:Heap} {Kc K:List Nat} (hown:∀ b,Own O (mrg σ L σ') b→own' b) (hR:Rep own' w' r σ' v) (hH:HRep own' w' σ' hs) (hlen:L.length≤hs.length)
  (hE:Ext (Mine σc) w (Mine σ') w') (hG:Good O w' σ') (hhold:Hold Kc w σc w' σ') (hK:(∀ i∈K,i∈L)∧∀ (j i:Nat),L[j]?=some i→i∉K→j∉Kc) :
  Post O w σ h ⟨ren2 (wg L h.length) r,wj L h.length (hs.map (renB (wg L h.length))),K⟩ v w' (mrg σ L σ'):=by
 have hl':L.length≤σ'.length:=by rw [hH.len]; exact hlen
 have hLσ:∀ i∈L,i<σ.length:=by rw [hh.len]; exact hL
 have hget:=yw (h:=σ) (hs:=σ') hLσ hn hl'
 have hback:∀ i j,wg L h.length i=some j→(mrg σ L σ')[j]?=σ'[i]?:=by
  intro i j hb
  simp only [wg] at hb
  rw [hget]
  split at hb
  ·rw [w5 hn hb]
  ·rename_i hi
   cases hb
   have:zo L (h.length+(i - L.length))=none:=qi.2 fun hm=>by have:=hL _ hm; omega
   rw [this]
   simp only [hh.len]
   rw [if_neg (by omega)]
   congr 1; omega
 have hcases:∀ (k:Nat) (e:SE),(mrg σ L σ')[k]?=some e→(∃ j,σ'[j]?=some e∧(L[j]?=some k∨(L.length≤j∧h.length≤k∧k=h.length+(j - L.length))))∨(k∉L∧σ[k]?=some e):=by
  intro k e he
  rw [hget] at he
  split at he
  ·rename_i j hj
   exact .inl ⟨j,he,.inl (vH hj)⟩
  ·rename_i hj
   split at he
   ·exact .inr ⟨qi.1 hj,he⟩
   ·rename_i hlt
    rw [hh.len] at he hlt
    exact .inl ⟨_,he,.inr ⟨by omega,by omega,by omega⟩⟩
 have hminec:∀ b,Mine σc b→∃ (i:Nat) (e:SE) (ad:Addr),i∈L∧σ[i]?=some e∧e.ad=some ad∧ad.block=b:=by
  intro b hb
  obtain⟨j,e,ad,h1,h2,h3⟩:=zu.1 hb
  rw [hσc] at h1
  cases hLj:L[j]? with
  | none=>simp [hLj] at h1
  | some i=>simp only [hLj,Option.bind_some] at h1; exact⟨i,e,ad,List.mem_of_getElem? hLj,h1,h2,h3⟩
 have hapart:∀ (k:Nat) (e:SE) (ad:Addr),k∉L→σ[k]?=some e→e.ad=some ad→¬ Mine σc ad.block:=by
  intro k e ad hk he had hm
  obtain⟨i,f,ad',hi,hf,ha,hb⟩:=hminec _ hm
  exact hh.inj i k f e ad' ad hf he ha had (fun e=>hk (e▸hi)) hb
 have hnew:∀ (j:Nat) (f:SE) (a:Addr),σ'[j]?=some f→f.ad=some a→Mine σc a.block∨w.heap.size≤a.block:=fun j f a hf ha=>hE.grow _ (zu.2 ⟨j,f,a,hf,ha,rfl⟩)
 have hkeep:∀ (k:Nat) (e:SE) (ad:Addr),k∉L→σ[k]?=some e→e.ad=some ad→w'.heap[ad.block]?=w.heap[ad.block]?:=fun k e ad hk he had=>
  hE.keep _ (hh.lt k e ad he had) (hapart k e ad hk he had)
 have hOc:∀ b,O b→¬ Mine σc b:=by
  intro b hb hm
  obtain⟨i,e,ad,_,h1,h2,rfl⟩:=hminec b hm
  exact hg.dis i e ad h1 h2 hb
 have hext:Ext (Own O σ) w (Own O (mrg σ L σ')) w':=by
  refine⟨hE.os,hE.tape,hE.output,hE.size,fun b hb hno=>hE.keep b hb (fun hm=>hno ?_),?_⟩
  ·obtain⟨i,e,ad,_,h1,h2,h3⟩:=hminec b hm
   exact .inr (zu.2 ⟨i,e,ad,h1,h2,h3⟩)
  ·rintro b (hb | hb)
   ·exact .inl (.inl hb)
   ·obtain⟨k,e,ad,h1,h2,h3⟩:=zu.1 hb
    rcases hcases k e h1 with ⟨j,hj,_⟩ | ⟨_,hk⟩
    ·rcases hnew j e ad hj h2 with hm | hm
     ·obtain⟨i,f,ad',_,h4,h5,h6⟩:=hminec _ hm
      exact .inl (.inr (zu.2 ⟨i,f,ad',h4,h5,h6.trans h3⟩))
     ·exact .inr (h3▸hm)
    ·exact .inl (.inr (zu.2 ⟨k,e,ad,hk,h2,h3⟩))
 have hold:Hold K w σ w' (mrg σ L σ'):=by
  intro i e he hi
  have hlt:=(List.getElem?_eq_some_iff.1 he).1
  by_cases hiL:i∈L
  ·obtain⟨j,hj⟩:=List.mem_iff_getElem?.1 hiL
   have hc:σc[j]?=some e:=by rw [hσc,hj]; exact he
   obtain⟨h1,h2⟩:=hhold j e hc (hK.2 j i hj hi)
   refine⟨?_,h2⟩
   rw [hget,w5 hn hj]; exact h1
  ·refine⟨?_,fun ad had cs el hcs=>⟨cs,el,?_,rfl⟩⟩
   ·rw [hget,qi.2 hiL]
    simp only [hlt,if_true]; exact he
   ·rw [hkeep i e ad hiL he had]; exact hcs
 have hrlen:L.length≤(hs.map (renB (wg L h.length))).length:=by simpa using hlen
 refine⟨jO hown (uc hback hR),hext,?_,hold,?_,fun b hb hlt=>hE.keep b hlt (hOc b hb),?_⟩
 ·have hkl:(zw K h).length=h.length:=by simp [zC]
  have heq:zi (zw K h) (wj L h.length (hs.map (renB (wg L h.length))))=mrg (zw K h) L (hs.map (renB (wg L h.length))):=by
   rw [← hkl]
   exact Qq (fun i hi=>by rw [hkl]; exact hL i hi) (by simpa using hlen)
  simp only
  rw [heq]
  have hgetB:=yw (h:=zw K h) (hs:=hs.map (renB (wg L h.length))) (fun i hi=>by rw [hkl]; exact hL i hi) hn hrlen
  refine⟨?_,?_,?_,?_⟩
  ·rw [kK hl',kK hrlen,hkl,hh.len]; simp [hH.len]
  ·intro i j e f a b he hf ha hb hij
   rcases hcases i e he with ⟨i',hi',hi2⟩ | ⟨hiL,hi⟩<;>rcases hcases j f hf with ⟨j',hj',hj2⟩ | ⟨hjL,hj⟩
   ·refine hH.inj i' j' e f a b hi' hj' ha hb ?_
    rintro rfl
    apply hij
    rcases hi2 with h1 | ⟨h1,h2,h3⟩<;>rcases hj2 with h4 | ⟨h4,h5,h6⟩
    ·rw [h1] at h4; cases h4; rfl
    ·have:=(List.getElem?_eq_some_iff.1 h1).1; omega
    ·have:=(List.getElem?_eq_some_iff.1 h4).1; omega
    ·omega
   ·rcases hnew i' e a hi' ha with hm | hm
    ·exact fun e=>hapart j f b hjL hj hb (e▸hm)
    ·have:=hh.lt j f b hj hb; omega
   ·rcases hnew j' f b hj' hb with hm | hm
    ·exact fun e'=>hapart i e a hiL hi ha (e'▸hm)
    ·have:=hh.lt i e a hi ha; omega
   ·exact hh.inj i j e f a b hi hj ha hb hij
  ·intro i e a he ha
   rcases hcases i e he with ⟨i',hi',_⟩ | ⟨_,hi⟩
   ·exact hH.lt i' e a hi' ha
   ·exact Nat.lt_of_lt_of_le (hh.lt i e a hi ha) hE.size
  ·intro i e b he hb
   rw [hgetB] at hb
   rw [hget] at he
   cases hp:zo L i with
   | some j=>
    simp only [hp,List.getElem?_map] at he hb
    cases hsj:hs[j]? with
    | none=>simp [hsj] at hb
    | some b0=>
     simp only [hsj,Option.map_some,Option.some.injEq] at hb
     subst hb
     exact um hown (kV hback (hH.blk j e b0 he hsj))
   | none=>
    simp only [hp] at he hb
    rw [hkl] at hb
    rw [hh.len] at he
    by_cases hlt:i<h.length
    ·simp only [hlt,if_true,zC,List.getElem?_map] at he hb
     rw [List.getElem?_eq_getElem hlt] at hb
     simp only [Option.map_some,Option.some.injEq] at hb
     subst hb
     exact q8 hext hold (hh.blk i e _ he (List.getElem?_eq_getElem hlt)) (fun ad had=>hkeep i e ad (qi.1 hp) he had)
    ·simp only [hlt,if_false,List.getElem?_map] at he hb
     cases hsj:hs[L.length+(i - h.length)]? with
     | none=>simp [hsj] at hb
     | some b0=>
      simp only [hsj,Option.map_some,Option.some.injEq] at hb
      subst hb
      exact um hown (kV hback (hH.blk _ e b0 he hsj))
 ·refine⟨fun b hb=>Nat.lt_of_lt_of_le (hg.old b hb) hE.size,fun i e ad he had=> ?_,hg.stat.ext hext⟩
  rcases hcases i e he with ⟨i',hi',_⟩ | ⟨_,hi⟩
  ·exact hG.dis i' e ad hi' had
  ·exact hg.dis i e ad hi had
 ·intro i e ad he had hi
  exact hkeep i e ad (fun hm=>hi (u9 hrlen i hm)) he had
theorem kT{h:Heap}(hg:Good O w σ)(hh:HRep (Own O σ) w σ h){K:List Nat}{a:AV}{v:Value}(ha:Rep (Own O σ) w a σ v):Rep (Own O (frzS K σ)) w (wG K h a) (frzS K σ) v:=by
 have hkill:Rep (Own O (frzS K σ)) w (z5 K a) (frzS K σ) v:=qa (qS K w σ) (kq K w σ) _ _ (v7 K a) (jt ha)
 unfold wG
 split
 ·rename_i a' k hf
  cases hk:k.all K.contains with
  | false=>exact hkill
  | true=>
   have h1:=x6 hg hh ha hf (K:=K) (fun i hi=>by have:=List.all_eq_true.1 hk i hi; simpa using this)
   exact qa (K:=[]) (Ext.refl _ _) (fun i e he=>by simp at he) _ _ (jb _) h1
 ·exact hkill
theorem jJ.map{D D':World→Prop}{g:Nat}{vals:Array Value}{w:World}{R R':Value→World→Prop}(hDD:∀ w',D w'→D' w')(hRR:∀ v w',R v w'→R' v w'):jJ Xp D P g vals w R→jJ Xp D' P g vals w R':=by
 rintro(⟨h1,h2⟩ | ⟨v,w',h1,h2⟩)
 ·exact .inl ⟨h1,h2.mono fun e w' h=>h.imp (fun⟨v,he,hR⟩=>⟨v,he,hRR _ _ hR⟩) fun⟨ch,g1,g2,g3⟩=>⟨ch,g1,g2,hDD _ g3⟩⟩
 ·exact .inr ⟨v,w',h1,hRR _ _ h2⟩
theorem yL{h:Heap}(hg:Good O w σ)(hh:HRep (Own O σ) w σ h){g:Nat}{c:Ctr}(hok:qg Xp P g c)(hfr:c.fresh=false){args:List AV}{vals:List Value}{Q:Res→Prop}{L:List Nat}
  (ha:RepL (Own O σ) w args σ vals) (hq:(Vm h c args L).holds Q):jJ Xp (Died σ w) P g vals.toArray w fun v w'=>∃ r σ',Q r∧Post O w σ h r v w' σ':=by
 simp only [Vm] at hq
 have hOσ:∀ b,Own O σ b→b<w.heap.size:=by
  rintro b (hb | hb)
  ·exact hg.old b hb
  ·obtain⟨i,e,ad,h1,h2,rfl⟩:=zu.1 hb
   exact hh.lt i e ad h1 h2
 split at hq
 ·rename_i hcond
  simp only [Bool.and_eq_true,List.all_eq_true,decide_eq_true_eq] at hcond
  obtain⟨hL,hn⟩:=hcond
  rw [Tree.zl] at hq
  have hLσ:∀ i∈L,i<σ.length:=by rw [hh.len]; exact hL
  let σc:List SE:=L.map fun i=>σ.getD i ⟨none,0⟩
  have hσc:∀ j:Nat,σc[j]?=(L[j]?).bind fun i=>σ[i]?:=by
   intro j
   simp only [σc,List.getElem?_map]
   cases hj:L[j]? with
   | none=>rfl
   | some i=>
    have:=hLσ i (List.mem_of_getElem? hj)
    simp [this]
  have hcget:∀ (j:Nat) (e:SE),σc[j]?=some e→∃ i,L[j]?=some i∧σ[i]?=some e:=by
   intro j e he
   rw [hσc] at he
   cases hj:L[j]? with
   | none=>simp [hj] at he
   | some i=>simp only [hj,Option.bind_some] at he; exact⟨i,rfl,he⟩
  have hpos:∀ i j,zo L i=some j→σc[j]?=σ[i]?:=by
   intro i j hp
   rw [hσc,vH hp]; rfl
  have hown:∀ b,Own (Own O (frzS L σ)) σc b↔Own O σ b:=by
   intro b
   constructor
   ·rintro(hb | hb)
    ·exact vZ hb
    ·obtain⟨j,e,ad,h1,h2,h3⟩:=zu.1 hb
     obtain⟨i,_,hi⟩:=hcget j e h1
     exact .inr (zu.2 ⟨i,e,ad,hi,h2,h3⟩)
   ·rintro(hb | hb)
    ·exact .inl (.inl hb)
    ·obtain⟨i,e,ad,h1,h2,h3⟩:=zu.1 hb
     by_cases hiL:i∈L
     ·obtain⟨j,hj⟩:=List.mem_iff_getElem?.1 hiL
      exact .inr (zu.2 ⟨j,e,ad,by rw [hσc,hj]; exact h1,h2,h3⟩)
     ·exact .inl (.inr (zu.2 ⟨i,e,ad,by rw [q6,h1]; simp [hiL],h2,h3⟩))
  have hownEq:Own (Own O (frzS L σ)) σc=Own O σ:=funext fun b=>propext (hown b)
  have hgc:Good (Own O (frzS L σ)) w σc:=by
   refine⟨fun b hb=>hOσ b (vZ hb),fun j e ad he had hb=> ?_,hg.stat.own fun b hb=>(hown b).1 hb⟩
   obtain⟨i,hj,hi⟩:=hcget j e he
   rcases yO hb with hb | ⟨k,f,ad',h1,h2,h3,h4⟩
   ·exact hg.dis i e ad hi had hb
   ·exact hh.inj k i f e ad' ad h1 hi h3 had (fun e=>h2 (e▸List.mem_of_getElem? hj)) h4
  have hhc:HRep (Own (Own O (frzS L σ)) σc) w σc (L.map fun i=>renB (zo L) (h.getD i .dead)):=by
   rw [hownEq]
   refine⟨by simp [σc],?_,?_,?_⟩
   ·intro i j e f a b he hf ha hb hij
    obtain⟨i',h1,h2⟩:=hcget i e he
    obtain⟨j',h3,h4⟩:=hcget j f hf
    refine hh.inj i' j' e f a b h2 h4 ha hb ?_
    rintro rfl
    have h5:=w5 hn h1
    have h6:=w5 hn h3
    rw [h5] at h6; cases h6; exact hij rfl
   ·intro i e a he ha
    obtain⟨i',h1,h2⟩:=hcget i e he
    exact hh.lt i' e a h2 ha
   ·intro j e b he hb
    obtain⟨i,h1,h2⟩:=hcget j e he
    simp only [List.getElem?_map,h1,Option.map_some,Option.some.injEq] at hb
    subst hb
    have hlt:=hL i (List.mem_of_getElem? h1)
    have hgd:h.getD i .dead=h[i]:=by simp [hlt]
    rw [hgd]
    exact kV hpos (hh.blk i e _ h2 (List.getElem?_eq_getElem hlt))
  have hrc:RepL (Own (Own O (frzS L σ)) σc) w (args.map (ren2 (zo L))) σc vals:=by
   rw [hownEq]
   exact ha.map2 fun a v=>uc hpos
  have hcall:=hok _ _ _ hq (fun hf=>by rw [hf] at hfr; cases hfr) (Own O (frzS L σ)) w σc vals hgc hhc hrc
  refine jJ.map (fun w' h=>h.mono fun b hb=>by
   obtain⟨j,e,ad,h1,h2,h3⟩:=zu.1 hb
   obtain⟨i,_,hi⟩:=hcget j e h1
   exact zu.2 ⟨i,e,ad,hi,h2,h3⟩) ?_ hcall
  rintro v w' ⟨r,hs,σ',hQ,hR,hH,hG,hl2,hHo,hE⟩
  have hl2':L.length≤hs.length:=by simpa using hl2
  dsimp only at hQ
  rw [if_pos hl2'] at hQ
  refine⟨_,mrg σ L σ',hQ,?_⟩
  refine u5 hg hh (L:=L) (σc:=σc) hL hn hσc ?_ hR hH hl2' hE ⟨fun b hb=>hG.old b (.inl hb),fun i e ad he had hO'=>hG.dis i e ad he had (.inl hO'),hG.stat.own (fun b hb=>hb.imp .inl id)⟩ hHo ?_
  ·rintro b (hb | hb)
   ·exact .inl (.inl (.inl hb))
   ·left
    obtain⟨k,e,ad,h1,h2,h3⟩:=zu.1 hb
    rw [yw hLσ hn (by rw [hH.len]; exact hl2')] at h1
    split at h1
    ·exact .inr (zu.2 ⟨_,e,ad,h1,h2,h3⟩)
    ·rename_i hp
     split at h1
     ·exact .inl (.inr (zu.2 ⟨k,e,ad,by rw [q6,h1]; simp [qi.1 hp],h2,h3⟩))
     ·exact .inr (zu.2 ⟨_,e,ad,h1,h2,h3⟩)
  ·cases hm:c.jS with
   | true=>
    refine⟨fun i hi=>List.mem_of_mem_drop (show i∈L.drop c.pins from hi),fun j i hj hi hmem=>hi ?_⟩
    obtain⟨k,hk⟩:=List.mem_iff_getElem?.1 hmem
    rw [if_pos rfl,List.getElem?_drop] at hk
    have hk2:=List.getElem?_eq_some_iff.1 hk
    obtain⟨hk3,hk4⟩:=hk2
    rw [List.getElem_range] at hk4
    refine List.mem_iff_getElem?.2 ⟨k,?_⟩
    show(L.drop c.pins)[k]?=some i
    rw [List.getElem?_drop,hk4]; exact hj
   | false=>exact⟨by simp,by simp⟩
 ·exact hq.elim
theorem vO:∀ (l m:List (Nat×Blk)) (h:Heap),zi h (l++m)=zi (zi h l) m
 | [],_,_=>rfl
 | p::l,m,h=>by simp only [List.cons_append,zi]; exact vO l m _
theorem xk:∀ (l m:List Nat) (h:Heap),zw (l++m) h=zw m (zw l h)
 | [],_,_=>rfl
 | p::l,m,h=>by simp only [List.cons_append,zw]; exact xk l m _
theorem JA(k:List Nat):qW k .dead = .dead:=rfl
theorem Jb(K k:List Nat)(h:Heap):qM K (zw k h)=zw k (qM K h):=by
 apply List.ext_getElem?
 intro i
 rw [qA,zC,zC,List.getElem?_map,List.getElem?_map,qA]
 cases h[i]? with
 | none=>rfl
 | some b=>
  simp only [Option.map_some]
  split
  ·rw [JA]
  ·rfl
theorem Wi{h:Heap}(hg:Good O w σ)(hh:HRep (Own O σ) w σ h){g:Nat}{c:Ctr}(hok:qg Xp P g c)(hfr:c.fresh=false){args:List AV}{vals:List Value}{Q:Res→Prop}{K:List Nat}
  (ha:RepL (Own O σ) w args σ vals) (hq:(Yf h c args K).holds Q):jJ Xp (Died σ w) P g vals.toArray w fun v w'=>∃ r σ',Q r∧Post O w σ h r v w' σ':=by
 unfold Yf at hq
 split at hq
 ·rename_i hK
  have hK:∀ i∈K,i<h.length:=fun i hi=>by have:=List.all_eq_true.1 hK i hi; simpa using this
  rw [Tree.zl] at hq
  have hl:(zw K h).length=h.length:=by rw [zC]; simp
  have hde:zi (zw K h) (j4 K)=qM K (zw K h):=vX K _ (fun i hi=>by rw [hl]; exact hK i hi)
  rw [hde] at hq
  have h1:=yL (kr K hg) (wX hh K) hok hfr ((zq (vs:=vals)).2 ⟨by rw [List.length_map]; exact(zq.1 ha).1,fun i x u hx hu=>by
   rw [List.getElem?_map] at hx
   cases hy:args[i]? with
   | none=>rw [hy] at hx; cases hx
   | some y=>
    rw [hy] at hx
    simp only [Option.map_some,Option.some.injEq] at hx
    subst hx
    exact kT hg hh ((zq.1 ha).2 i y u hy hu)⟩) hq
  refine jJ.map (fun w' h=>h.mono fun b hb=>by
   obtain⟨j,e,ad,h1,h2,h3⟩:=zu.1 hb
   rw [q6] at h1
   cases hj:σ[j]? with
   | none=>rw [hj] at h1; cases h1
   | some e0=>
    rw [hj] at h1
    simp only [Option.map_some,Option.some.injEq] at h1
    split at h1
    ·rw [← h1] at h2; cases h2
    ·subst h1; exact zu.2 ⟨j,e0,ad,hj,h2,h3⟩) ?_ h1
  rintro v w' ⟨r,σ',hQ,hP⟩
  refine⟨_,σ',hQ,hP.rep,(qS K w σ).trans hP.ext,?_,?_,hP.good,hP.wZ,?_⟩
  ·have e1:zi (zw (K++r.kill) h) (j4 K++r.eff)=zi (zw r.kill (qM K (zw K h))) r.eff:=by
    rw [vO,xk,vX K _ (fun i hi=>by rw [zC r.kill,List.length_map,hl]; exact hK i hi),Jb]
   show HRep _ _ _ (zi (zw (K++r.kill) h) (j4 K++r.eff))
   rw [e1]
   exact hP.hp
  ·intro i e he hi
   simp only [List.mem_append,not_or] at hi
   exact hP.hold i e (by rw [q6,he]; simp [hi.1]) hi.2
  ·intro i e ad he had hi
   simp only [List.map_append,List.mem_append,not_or] at hi
   have hiK:i∉K:=fun hm=>hi.1 (by simp [j4]; exact hm)
   exact hP.fr i e ad (by rw [q6,he]; simp [hiK]) had hi.2
 ·exact hq.elim
theorem W8{h:Heap}{Γ:Nat→Option Ctr}(hΓ:∀ g c,Γ g=some c→qg Xp P g c)(hg:Good O w σ)(hh:HRep (Own O σ) w σ h){g:Nat}{args:List AV}{vals:List Value}{Q:Res→Prop}
  (ha:RepL (Own O σ) w args σ vals) (hq:(Ye Γ h g args).holds Q):jJ Xp (Died σ w) P g vals.toArray w fun v w'=>∃ r σ',Q r∧Post O w σ h r v w' σ':=by
 simp only [Ye] at hq
 have hOσ:∀ b,Own O σ b→b<w.heap.size:=by
  rintro b (hb | hb)
  ·exact hg.old b hb
  ·obtain⟨i,e,ad,h1,h2,rfl⟩:=zu.1 hb
   exact hh.lt i e ad h1 h2
 split at hq
 ·rename_i c hc
  have hok:=hΓ g c hc
  split at hq
  ·
   rename_i hfr
   split at hq
   ·rename_i l hl
    rw [Tree.zl] at hq
    let K:List Nat:=l.flatMap (·.2)
    have hK1:∀ p∈l,∀ i∈p.2,i∈K:=fun p hp i hi=>List.mem_flatMap.2 ⟨p,hp,hi⟩
    have hargs:=kF hg hh ha hl hK1
    have hO:∀ b,Own O (frzS K σ) b→b<w.heap.size:=fun b hb=>hOσ b (vZ hb)
    have hcall:=hok _ [] _ hq (fun _=>rfl) (Own O (frzS K σ)) w [] vals ⟨hO,fun i e ad h=>by simp at h,hg.stat.own (fun b hb=>by rcases hb with hb | ⟨e,he,_⟩; exact vZ hb; simp at he)⟩ ⟨rfl,fun i j e f a b h=>by simp at h,fun i e a h=>by simp at h,fun i e b h=>by simp at h⟩
     (zq.2 ⟨hargs.length,fun i x u hx hu=>jO (fun b hb=>by rcases hb with hb | ⟨e,he,_⟩; exact hb; simp at he) ((zq.1 hargs).2 i x u hx hu)⟩)
    refine jJ.map (fun w' h=>h.mono fun b hb=>by obtain⟨e,he,_⟩:=hb; simp at he) ?_ hcall
    rintro v w' ⟨r,hs,σ',hQ,hR,hH,hG,hl2,hHo,hE⟩
    refine⟨_,mrg σ [] σ',hQ,?_⟩
    have hex:∀ b,Mine ([]:List SE) b→False:=fun b ⟨e,he,_⟩=>by simp at he
    refine u5 hg hh (L:=[]) (σc:=[]) (Kc:=[]) (by simp) rfl (by simp) ?_ hR hH (by simp) hE ⟨fun b hb=>hG.old b (.inl hb),fun i e ad he had hO'=>hG.dis i e ad he had (.inl hO'),hG.stat.own (fun b hb=>hb.imp .inl id)⟩ (fun i e h=>by simp at h) ⟨by simp,by simp⟩
    simp only [mrg]
    rintro b (hb | ⟨e,he,ad,h1,h2⟩)
    ·exact .inl (.inl (.inl hb))
    rcases List.mem_append.1 he with he | he
    ·exact .inr ⟨hfr,hOσ b (.inr ⟨e,he,ad,h1,h2⟩)⟩
    ·exact .inl (.inr ⟨e,he,ad,h1,h2⟩)
   ·exact hq.elim
  ·
   rename_i hfr
   cases hs:c.sinks with
   | true=>rw [hs] at hq; exact Wi hg hh hok hfr ha hq
   | false=>rw [hs] at hq; exact yL hg hh hok hfr ha hq
 ·exact hq.elim
end
end Go.Sx
end
