/- Part 2 of the proof. -/
import Derived.Tactics
import Derived.Orders
import Derived.KernelRfl
import Derived.Below
import Derived.Laws.Cells
import Derived.ChangeKeysEq
import Derived.Laws.Strings
import Derived.Laws.BytesString
import Derived.Laws.StructEq
import Derived.Laws.AppendOwn
import Derived.Laws.MakeOwn
import Derived.Deep.AppendSrc
set_option linter.unusedVariables false
set_option linter.unusedSimpArgs false
set_option linter.unusedSectionVars false
theorem Go.aB{p:Prop}[h0:Decidable p](h:decide p=true):p:=of_decide_eq_true h
theorem Go.aC{p:Prop}[h0:Decidable p](h:decide p=false):¬p:=of_decide_eq_false h
theorem Go.aD(n:Nat):(n:Int).toNat=n:=Int.toNat_natCast n
theorem Go.aE{α:Type _}(a b:α):(some a=some b)=(a=b):=Option.some.injEq a b
theorem Go.aF{α:Type _}{l:List α}{i:Nat}(h:i<l.length):l[i]? =some l[i]:=List.getElem?_eq_getElem h
theorem Go.aG{α:Type _}{l:List α}{i:Nat}{a:α}:l[i]? =some a<->∃h:i<l.length,l[i]=a:=List.getElem?_eq_some_iff
theorem Go.aH{α:Type _}{i:Nat}{l:List α}:(l.take i).length=min i l.length:=List.length_take
theorem Go.aI(n:Nat):0<=n:=Nat.zero_le n
theorem Go.aJ(n:Nat):n<=n:=Nat.le_refl n
theorem Go.aK{p:Prop}[h0:Decidable p]:(decide p=true)=p:=decide_eq_true_eq
theorem Go.aL{α:Type _}{a:α}{l:List α}:(a::l).length=l.length+1:=List.length_cons
theorem Go.aM{α:Type _}{a b:α}{l:List α}:a∈b::l<->a=b\/a∈l:=List.mem_cons
theorem Go.aN{α:Type _}{β:Type _}{f:α->β}{l:List α}{i:Nat}:(l.map f)[i]? =l[i]?.map f:=List.getElem?_map
theorem Go.aO:type_of% @if_neg:=@if_neg
theorem Go.aP:type_of% @if_pos:=@if_pos
theorem Go.aQ:type_of% @Array.getElem?_eq_some_iff:=@Array.getElem?_eq_some_iff
theorem Go.aR:type_of% @Nat.lt_or_ge:=@Nat.lt_or_ge
theorem Go.aS:type_of% @Nat.mul_le_mul_left:=@Nat.mul_le_mul_left
theorem Go.aT:type_of% @Nat.mul_le_mul_right:=@Nat.mul_le_mul_right
theorem Go.aU:type_of% @List.length_eq_zero_iff:=@List.length_eq_zero_iff
theorem Go.aV:type_of% @decide_eq_false_iff_not:=@decide_eq_false_iff_not
theorem Go.aW:type_of% @decide_eq_false:=@decide_eq_false
theorem Go.aX:type_of% @decide_eq_true:=@decide_eq_true
theorem Go.aY:type_of% @List.mem_of_getElem?:=@List.mem_of_getElem?
theorem Go.aZ:type_of% @List.getElem?_eq_none:=@List.getElem?_eq_none
theorem Go.bA:type_of% @Bool.and_eq_true:=@Bool.and_eq_true
theorem Go.bB:type_of% @Nat.lt_of_lt_of_le:=@Nat.lt_of_lt_of_le
theorem Go.bC:type_of% @Nat.eq_zero_or_pos:=@Nat.eq_zero_or_pos
theorem Go.bD:type_of% @List.take_length:=@List.take_length
theorem Go.bE:type_of% @Prod.mk.injEq:=@Prod.mk.injEq
theorem Go.bF:type_of% @List.take_of_length_le:=@List.take_of_length_le
theorem Go.bG:type_of% @List.all_eq_true:=@List.all_eq_true
theorem Go.bH:type_of% @Nat.add_mul:=@Nat.add_mul
theorem Go.bI:type_of% @Nat.mul_assoc:=@Nat.mul_assoc
theorem Go.bJ:type_of% @Nat.mul_comm:=@Nat.mul_comm
theorem Go.bK:type_of% @List.getElem_mem:=@List.getElem_mem
theorem Go.bL:type_of% @List.getElem?_append_left:=@List.getElem?_append_left
theorem Go.bM:type_of% @Decidable.byContradiction:=@Decidable.byContradiction
theorem Go.bN:type_of% @Nat.mul_add:=@Nat.mul_add
theorem Go.bO:type_of% @List.length_append:=@List.length_append
theorem Go.bP:type_of% @Nat.le_trans:=@Nat.le_trans
theorem Go.bQ:type_of% @Array.getD_eq_getD_getElem?:=@Array.getD_eq_getD_getElem?
theorem Go.bR:type_of% @List.getElem?_take:=@List.getElem?_take
theorem Go.bS:type_of% @List.getElem?_set_ne:=@List.getElem?_set_ne
theorem Go.bT:type_of% @List.getElem?_append:=@List.getElem?_append
theorem Go.bU:type_of% @List.take_append_drop:=@List.take_append_drop
theorem Go.bV:type_of% @Nat.pos_of_ne_zero:=@Nat.pos_of_ne_zero
theorem Go.bW:type_of% @Nat.pow_le_pow_right:=@Nat.pow_le_pow_right
theorem Go.bX:type_of% @List.contains_eq_mem:=@List.contains_eq_mem
theorem Go.bY:type_of% @List.mem_append:=@List.mem_append
section
namespace Go.Sx
abbrev _root_.L8:=_root_.List _root_.UInt8
universe u
inductive AV where
 | undef
 | bool (b:Bool)
 | int (k:IntKind) (n:Int)
 | str (s:L8)
 | nils
 | sl (n sz:Nat) (get:Nat->Nat->AV)
 | osl (i sz off n:Nat)
 | ptr (i off:Nat)
 | nilp
 | eptr (i sz idx off:Nat)
 | iptr (m:Nat) (get:Nat->AV)
 | gptr (g:Nat)
 | agg (cells:List AV)
 | tup (vs:List AV)
 | fn (f:Nat) (first cap:List AV)
 | nilf
  | bot
 | opt (t:Nat) (want:Bool) (x:AV)
 | mp (k:IntKind) (ag:Bool) (sz:Nat) (ks:List Int) (has:Int->Bool) (get:Int->Nat->AV)
 | omap (i:Nat)
abbrev AV.i(x:Int):AV:=.int .i64 x
abbrev _root_.Go.Value.i(x:Int):Go.Value:=.int .i64 x
class Stat where
 z:Nat->Option AV
abbrev Sc:=Sum Int (L8)
abbrev SK:=Sum IntKind Bool
inductive Blk where
 | dead
 | box (cells:List AV)
 | arr (n sz:Nat) (get:Nat->Nat->AV)
 | map (ag:Bool) (sh:List SK) (has:List Sc->Bool) (get:List Sc->AV) (pe:Option (List Sc×Int):=none)
 | arrI (k:IntKind) (n:Nat) (f:Nat->Int)
 | arrS (n:Nat) (f:Nat->L8)
inductive Tree(α:Type) where
 | leaf (a:α)
 | ite (b:Bool) (t e:Tree α)
 | side (p:Prop) (t:Tree α)
 | ex {X:Type} (p:X->Prop) (k:X->Tree α)
 | all {X:Type} (p:X->Prop) (k:X->Tree α)
 | fail
namespace Tree
def bind{α β:Type} : Tree α->(α->Tree β)->Tree β
 | .leaf a,f=>f a
 | .ite b t e,f=>.ite b (t.bind f) (e.bind f)
 | .side p t,f=>.side p (t.bind f)
 | .ex p k,f=>.ex p λn=>(k n).bind f
 | .all p k,f=>.all p λn=>(k n).bind f
 | .fail,_=>.fail
def holds{α:Type} : Tree α->(α->Prop)->Prop
 | .leaf a,Q=>Q a
 | .ite b t e,Q=>(b=true->t.holds Q)/\(b=false->e.holds Q)
 | .side p t,Q=>p/\(p->t.holds Q)
 | .ex p k,Q=>∃ n,p n/\(k n).holds Q
 | .all p k,Q=>(∃ n,p n)/\∀ n,p n->(k n).holds Q
 | .fail,_=>False
def map{α β:Type}(f:α->β)(t:Tree α):Tree β:=t.bind λa=>.leaf (f a)
def chain{α:Type} : Tree α->Option (List Prop×α)
 | .leaf a=>some ([],a)
 | .side p t=>match t.chain with
  | some (ps,a)=>some (p::ps,a)
  | none=>none
 | _=>none
end Tree
abbrev Heap:=List Blk
abbrev Spec:=List AV->Heap->Tree (AV×Heap)
structure Ctr where
 fresh:Bool
 spec:Spec
 wS:Bool:=false
 pins:Nat:=0
 sinks:Bool:=false
structure St where
 tmps:List AV
 heap:Heap
def lo:IntKind->Int
 | .i8=> -128 | .i16=> -32768 | .i32=> -2147483648 | .i64=> -9223372036854775808
 | _=>0
def hi:IntKind->Int
 | .i8=>127 | .i16=>32767 | .i32=>2147483647 | .i64=>9223372036854775807
 | .u8=>255 | .u16=>65535 | .u32=>4294967295 | .u64=>18446744073709551615
def inR(k:IntKind)(n:Int):Prop:=lo k<=n/\n<=hi k
def zf(g:Nat->Nat->AV)(l:Nat):Nat->Nat->AV:=λj o=>g (l+j) o
def eltG(g:Nat->Nat->AV)(i:Nat):Nat->AV:=λo=>g i o
def atG(g:Nat->AV)(d:Nat):Nat->AV:=λo=>g (d+o)
def updG(g:Nat->Nat->AV)(i d:Nat)(cs:List AV):Nat->Nat->AV:=λj o=>if j=i/\d<=o/\o<d+cs.length then cs.getD (o - d) .undef else g j o
def tgI(k:IntKind)(f:Nat->Int):Nat->Nat->AV:=λj _=>.int k (f j)
def tgS(f:Nat->L8):Nat->Nat->AV:=λj _=>.str (f j)
def updI(f:Nat->Int)(i:Nat)(v:Int):Nat->Int:=λj=>if j=i then v else f j
def updS(f:Nat->L8)(i:Nat)(v:L8):Nat->L8:=λj=>if j=i then v else f j
def appG(n:Nat)(g g':Nat->Nat->AV):Nat->Nat->AV:=λj o=>if j<n then g j o else g' (j - n) o
def zd(sz:Nat)(cs:List AV):Nat->Nat->AV:=λj o=>cs.getD (j*sz+o) .undef
def qb(cs:List AV):Nat->Nat->AV:=λ_ o=>cs.getD o .undef
def byteOf:AV->UInt8
 | .int _ n=>UInt8.ofNat n.toNat
 | _=>0
def xl(n:Nat)(g:Nat->Nat->AV):L8:=(List.range n).map λj=>byteOf (g j 0)
def uh:Value->AV
 | .bool b=>.bool b
 | .int k n=>.int k n
 | .string s=>.str s.data.toList
 | .slice none 0 0=>.nils
 | .pointer none=>.nilp
 | .nilFunc=>.nilf
 | _=>.undef
def xH:Value->AV
 | .agg cs=>.agg (cs.toList.map uh)
 | v=>uh v
def cellsOf:AV->Option (List AV)
 | .agg cs=>some cs
 | .undef=>none
 | .opt _ _ _=>none
 | v=>some [v]
def oneA:AV->Bool
 | .undef=>false
 | .agg _=>false
 | .tup _=>false
 | .opt _ _ _=>false
 | _=>true
def jm(i:Nat):AV->AV
 | .osl j sz off n=>if i=j then .undef else .osl j sz off n
 | .eptr j sz idx off=>if i=j then .undef else .eptr j sz idx off
 | .ptr j off=>if i=j then .undef else .ptr j off
 | .omap j=>if i=j then .undef else .omap j
 | .agg _=>.undef
 | .tup _=>.undef
 | .fn f a b=>match a,b with
  | [],[]=>.fn f [] []
  | _,_=>.undef
 | .opt _ _ _=>.undef
 | x=>x
def uP:AV->Bool
 | .sl _ _ _=>true
 | .int _ _=>true
 | .str _=>true
 | .bool _=>true
 | _=>false
def zY(i:Nat):AV->AV
 | .agg cs=>.agg (cs.map (jm i))
 | .tup cs=>.tup (cs.map (jm i))
 | .fn f a b=>.fn f (a.map (jm i)) (b.map (jm i))
 | .opt t want x=>bif uP x then .opt t want x else .undef
 | x=>jm i x
def J2(i:Nat):Blk->Blk
 | .box cs=>.box (cs.map (zY i))
 | b=>b
structure Res where
 val:AV
 eff:List (Nat×Blk):=[]
 kill:List Nat:=[]
def qm(h:Heap)(l:Nat)(b:Blk):Heap:=if l<h.length then h.set l b else h++[b]
def zk(h:Heap):List (Nat×Blk)->Heap
 | []=>h
 | (l,b)::r=>zk (qm h l b) r
def setAt(cs:List AV)(off:Nat)(new:List AV):List AV:=cs.take off++new++cs.drop (off+new.length)
section
variable (P:Program) (Γ:Nat->Option Ctr)
def zeroCells(t:TypeId):Option (List AV):=match P.info? t with
 | some i=>match i.zero with
  | some v=>cellsOf (xH v)
  | none=>none
 | none=>none
def jA(t:TypeId):Option Bool:=match P.underlying t with
 | some (.struct _) | some (.array _ _)=>some true
 | some _=>some false
 | none=>none
def qj(t:TypeId):Option Nat:=(P.info? t).map (·.size)
def wA(agg:Bool)(cs:List AV):Tree AV:=if agg then .leaf (.agg cs) else match cs with
 | [c]=>.leaf c
 | _=>.fail
def uQ(h:Heap)(t:TypeId):AV->Tree AV
 | .ptr i off=>match h[i]?,jA P t,qj P t with
  | some (.box cells),some a,some n=>if off+n<=cells.length then wA a ((cells.drop off).take n) else .fail
  | _,_,_=>.fail
 | .eptr i sz idx off=>match h[i]?,jA P t,qj P t with
  | some (.arr _ sz' g),some a,some n=>if sz=sz'/\off+n<=sz then wA a ((List.range n).map λo=>g idx (off+o)) else .fail
  | some (.arrI k _ f),some false,some 1=>if sz=1/\off=0 then .leaf (.int k (f idx)) else .fail
  | some (.arrS _ f),some false,some 1=>if sz=1/\off=0 then .leaf (.str (f idx)) else .fail
  | some (.box cells),some a,some n=>if idx*sz+off+n<=cells.length then wA a ((cells.drop (idx*sz+off)).take n) else .fail
  | _,_,_=>.fail
 | .iptr m g=>match jA P t,qj P t with
  | some a,some n=>if n<=m then wA a ((List.range n).map g) else .fail
  | _,_=>.fail
 | _=>.fail
def jI(h:Heap):AV->Option (Nat×Nat×(Nat->Nat->AV))
 | .nils=>some (0,0,λ_ _=>.undef)
 | .sl n sz g=>some (n,sz,g)
 | .osl i sz off n=>match h[i]? with
  | some (.arr _ sz' g)=>if sz=sz' then some (n,sz,zf g off) else none
  | some (.arrI k _ f)=>if sz=1 then some (n,sz,zf (tgI k f) off) else none
  | some (.arrS _ f)=>if sz=1 then some (n,sz,zf (tgS f) off) else none
  | _=>none
 | _=>none
def xh(s:TypeId)(f:Nat):Option (Nat×TypeId×Nat):=match P.underlying s with
 | some (.struct fields)=>match fields[f]? with
  | some fld=>match P.info? fld.type with
   | some i=>if i.size=0 then none else some (fld.offset,fld.type,i.size)
   | none=>none
  | none=>none
 | _=>none
def YW(d:Nat):AV->Tree AV
 | .ptr i off=>.leaf (.ptr i (off+d))
 | .eptr i sz idx off=>.leaf (.eptr i sz idx (off+d))
 | .iptr m g=>if d<=m then .leaf (.iptr (m - d) (atG g d)) else .fail
 | _=>.fail
def ZM(op:BinOp)(k:IntKind)(x y:Int):Tree AV:=match op with
 | .shl=>.side (0<=y/\y<=k.bits/\inR k (x*2^y.toNat)) (.leaf (.int k (x*2^y.toNat)))
 | .shr=>.side (0<=y/\y<=k.bits) (.leaf (.int k (x.fdiv (2^y.toNat))))
 | _=>.fail
def Xz(op:BinOp)(k:IntKind)(x y:Int):Tree AV:=match op with
 | .and=>.side ((0<=x/\x<=hi k)/\0<=y/\y<=hi k) (.leaf (.int k ((x.toNat &&& y.toNat:Nat):Int)))
 | .shl=>ZM .shl k x y
 | .shr=>ZM .shr k x y
 | .add=>.side (inR k (x+y)) (.leaf (.int k (x+y)))
 | .sub=>.side (inR k (x - y)) (.leaf (.int k (x - y)))
 | .mul=>.side (inR k (x*y)) (.leaf (.int k (x*y)))
 | .quo=>.side (y≠0/\inR k (x.tdiv y)) (.leaf (.int k (x.tdiv y)))
 | .rem=>.side (y≠0) (.leaf (.int k (x.tmod y)))
 | .eql=>.leaf (.bool (decide (x=y)))
 | .neq=>.leaf (.bool (!decide (x=y)))
 | .lss=>.leaf (.bool (decide (x<y)))
 | .leq=>.leaf (.bool (decide (x<=y)))
 | .gtr=>.leaf (.bool (decide (y<x)))
 | .geq=>.leaf (.bool (decide (y<=x)))
 | _=>.fail
def X7(op:BinOp)(x y:L8):Tree AV:=match op with
 | .add=>.side (x.length+y.length<=9223372036854775807) (.leaf (.str (x++y)))
 | .eql=>.leaf (.bool (decide (x=y)))
 | .neq=>.leaf (.bool (!decide (x=y)))
 | .lss=>.leaf (.bool (Op.bytesLess x y))
 | .leq=>.leaf (.bool (Op.bytesLess x y||decide (x=y)))
 | .gtr=>.leaf (.bool (!(Op.bytesLess x y||decide (x=y))))
 | .geq=>.leaf (.bool (!Op.bytesLess x y))
 | _=>.fail
def jG(as bs:List AV):List Field->Option Bool
 | []=>some true
 | f::fs=>if f.name ≠ "_" then match jA P f.type,P.underlying f.type,as[f.offset]?,bs[f.offset]? with
   | some false,some (.int _),some (.int k x),some (.int k' y)=>if k=k' then match jG as bs fs with
     | some r=>some (decide (x=y)&&r)
     | none=>none
    else none
   | some false,some .string,some (.str x),some (.str y)=>match jG as bs fs with
    | some r=>some (decide (x=y)&&r)
    | none=>none
   | some false,some .bool,some (.bool x),some (.bool y)=>match jG as bs fs with
    | some r=>some ((x == y)&&r)
    | none=>none
   | _,_,_,_=>none
  else jG as bs fs
def Zo(op:BinOp)(t:TypeId)(n:Nat):Tree AV:=match P.underlying t with
 | some (.slice _)=>match op with
  | .eql=>.all (λb:Bool=>0<n->b=false) λb=>.leaf (.bool b)
  | .neq=>.all (λb:Bool=>0<n->b=true) λb=>.leaf (.bool b)
  | _=>.fail
 | _=>.fail
def Zp(op:BinOp)(t:TypeId)(b:Bool):Tree AV:=match P.underlying t with
 | some (.pointer _)=>match op with
  | .eql=>.leaf (.bool b)
  | .neq=>.leaf (.bool (!b))
  | _=>.fail
 | _=>.fail
def binX(op:BinOp)(t:TypeId):AV->AV->Tree AV
 | .sl n _ _,.nils=>Zo P op t n
 | .osl _ _ _ n,.nils=>Zo P op t n
 | .nilp,.nilp=>Zp P op t true
 | .ptr _ _,.nilp=>Zp P op t false
 | .int k x,.int k' y=>if k=k' then Xz op k x y else ZM op k x y
 | .str x,.str y=>X7 op x y
 | .bool x,.bool y=>match P.underlying t,op with
  | some .bool,.eql=>.leaf (.bool (x == y))
  | some .bool,.neq=>.leaf (.bool (!(x == y)))
  | _,_=>.fail
 | .agg as,.agg bs=>match P.underlying t with
  | some (.struct fs)=>if P.stoodInHeld t=false/\P.eqGuardType P.depth t=false then match jG P as bs fs.toList with
    | some r=>match op with
     | .eql=>.leaf (.bool r)
     | .neq=>.leaf (.bool (!r))
     | _=>.fail
    | none=>.fail
   else .fail
  | _=>.fail
 | _,_=>.fail
def yR(n:Nat):Option AV->Option AV->Tree (Nat×Nat)
 | none,none=>.leaf (0,n)
 | some (.int _ l),none=>.side (0<=l/\l<=n) (.leaf (l.toNat,n))
 | none,some (.int _ h)=>.side (0<=h/\h<=n) (.leaf (0,h.toNat))
 | some (.int _ l),some (.int _ h)=>.side (0<=l/\l<=h/\h<=n) (.leaf (l.toNat,h.toNat))
 | _,_=>.fail
def ud(t:TypeId)(l h:Option AV):AV->Tree AV
 | .str s=>match P.underlying t with
  | some .string=>(yR s.length l h).bind λ(l,h)=>.leaf (.str ((s.take h).drop l))
  | _=>.fail
 | .nils=>match P.underlying t with
  | some (.slice e)=>if(qj P e).isSome then(yR 0 l h).bind λ_=>.leaf .nils else .fail
  | _=>.fail
 | .sl n sz g=>match P.underlying t with
  | some (.slice e)=>if qj P e=some sz then(yR n l h).bind λ(l,h)=>.leaf (.sl (h - l) sz (zf g l)) else .fail
  | _=>.fail
 | .osl i sz off n=>match P.underlying t with
  | some (.slice e)=>if qj P e=some sz then(yR n l h).bind λ(l,h)=>.leaf (.osl i sz (off+l) (h - l)) else .fail
  | _=>.fail
 | _=>.fail
def We(t:TypeId)(l:Option AV)(h m:AV):AV->Tree AV
 | .sl n sz g=>match P.underlying t,h,m with
  | some (.slice e),.int _ h,.int _ m=>if qj P e=some sz then match l with
    | none=>.side (0<=h/\h<=m/\m<=n) (.leaf (.sl h.toNat sz (zf g 0)))
    | some (.int _ l)=>.side (0<=l/\l<=h/\h<=m/\m<=n) (.leaf (.sl (h.toNat - l.toNat) sz (zf g l.toNat)))
    | _=>.fail
   else .fail
  | _,_,_=>.fail
 | _=>.fail
def lenX(t:TypeId):AV->Tree AV
 | .str s=>match P.underlying t with
  | some .string=>.leaf (.i s.length)
  | _=>.fail
 | .nils=>match P.underlying t with
  | some (.slice _)=>.leaf (.i 0)
  | _=>.fail
 | .sl n _ _=>match P.underlying t with
  | some (.slice _)=>.leaf (.i n)
  | _=>.fail
 | .osl _ _ _ n=>match P.underlying t with
  | some (.slice _)=>.leaf (.i n)
  | _=>.fail
 | _=>.fail
def vB(place:Nat->Option (Nat×Nat))(cells:List AV):List (Nat×AV)->Option (List AV)
 | []=>some cells
 | (i,v)::rest=>match place i with
  | none=>none
  | some (off,size)=>match cellsOf v with
   | some cv=>if cv.length=size/\off+size<=cells.length then vB place (setAt cells off cv) rest else none
   | none=>none
def nilX:AV->Tree AV
 | .ptr i o=>.leaf (.ptr i o)
 | .iptr m g=>.leaf (.iptr m g)
 | .eptr i sz idx o=>.leaf (.eptr i sz idx o)
 | .fn f a b=>.leaf (.fn f a b)
 | _=>.fail
def unX(op:UnOp):AV->Tree AV
 | .bool b=>match op with
  | .not=>.leaf (.bool (!b))
  | _=>.fail
 | .int k n=>match op with
  | .neg=>.side (inR k (-n)) (.leaf (.int k (-n)))
  | _=>.fail
 | _=>.fail
def KE(h:Heap)(src t:TypeId):AV->Tree AV
 | .int _ n=>match P.underlying src,P.underlying t with
  | some (.int _),some (.int k)=>.side (inR k n) (.leaf (.int k n))
  | _,_=>.fail
 | .str s=>match P.underlying src,P.underlying t with
  | some .string,some .string=>.leaf (.str s)
  | _,_=>.fail
 | v=>match P.underlying src,P.underlying t with
  | some (.slice e),some .string=>match P.underlying e,jI h v with
   | some (.int .u8),some (n,1,g)=>.side (∀ j,j<n->∃ b:UInt8,g j 0 = .int .u8 b.toNat) (.leaf (.str (xl n g)))
   | _,_=>.fail
  | _,_=>.fail
def xf(t:TypeId)(i:AV):AV->Tree AV
 | .sl n sz g=>match P.underlying t,i with
  | some (.slice e),.int _ i=>if qj P e=some sz then .side (0<=i/\i<n) (.leaf (.iptr sz (eltG g i.toNat))) else .fail
  | _,_=>.fail
 | .osl b sz off n=>match P.underlying t,i with
  | some (.slice e),.int _ i=>if qj P e=some sz then .side (0<=i/\i<n) (.leaf (.eptr b sz (off+i.toNat) 0)) else .fail
  | _,_=>.fail
 | .ptr b off=>match P.underlying t,i with
  | some (.array len e),.int _ i=>match qj P e with
   | some sz=>.side (0<=i/\i<len) (.leaf (.ptr b (off+i.toNat*sz)))
   | none=>.fail
  | _,_=>.fail
 | _=>.fail
def Va(t:TypeId)(i:AV):AV->Tree AV
 | .str s=>match P.underlying t,i with
  | some .string,.int _ i=>.side (0<=i/\i<s.length) (.leaf (.int .u8 ((s.getD i.toNat 0).toNat:Nat)))
  | _,_=>.fail
 | .agg cs=>match P.underlying t,i with
  | some (.array len e),.int _ i=>match qj P e,jA P e with
   | some sz,some a=>.side (0<=i/\i<len/\i.toNat*sz+sz<=cs.length) (wA a ((cs.drop (i.toNat*sz)).take sz))
   | _,_=>.fail
  | _,_=>.fail
 | _=>.fail
def Xv(t:TypeId)(f:Nat):AV->Tree AV
 | .agg cs=>match xh P t f with
  | some (o,ft,n)=>match jA P ft with
   | some a=>if o+n<=cs.length then wA a ((cs.drop o).take n) else .fail
   | none=>.fail
  | none=>.fail
 | _=>.fail
def Zy(ag:Bool)(sz:Nat)(get:Nat->AV):AV:=bif ag then .agg ((List.range sz).map get) else get 0
def qL(ok:Bool)(v:AV)(b:Bool):AV:=bif ok then .tup [v,.bool b] else v
def XD(ok ag:Bool)(sz:Nat)(get:Int->Nat->AV)(n:Int):List Int->Tree AV
 | []=>.fail
 | k::l=>.ite (decide (n=k)) (.leaf (qL ok (Zy ag sz (get k)) true)) (XD ok ag sz get n l)
def V0(ok ag:Bool)(sz:Nat)(get:Int->Nat->AV)(n:Int):List Int->Tree AV
 | []=>.leaf (qL ok (Zy ag sz (get n)) true)
 | k::l=>XD ok ag sz get n (k::l)
def scX:AV->Option (SK×Sc)
 | .int k n=>some (.inl k,.inl n)
 | .str s=>some (.inr false,.inr s)
 | .bool b=>some (.inr true,.inl (bif b then 1 else 0))
 | _=>none
def scsX:List AV->Option (List SK×List Sc)
 | []=>some ([],[])
 | a::l=>match scX a,scsX l with
  | some (k,s),some (ks,ss)=>some (k::ks,s::ss)
  | _,_=>none
def keyX:AV->Option (Bool×List SK×List Sc)
 | .agg cs=>match scsX cs with
  | some (ks,ss)=>some (true,ks,ss)
  | none=>none
 | a=>match scX a with
  | some (k,s)=>some (false,[k],[s])
  | none=>none
def xO:Nat->List Field->Option (List SK)
 | _,[]=>some []
 | o,f::fs=>if f.name ≠ "_" /\ f.offset=o then match jA P f.type,P.underlying f.type,xO (o+1) fs with
   | some false,some (.int k),some l=>some (.inl k::l)
   | some false,some .string,some l=>some (.inr false::l)
   | some false,some .bool,some l=>some (.inr true::l)
   | _,_,_=>none
  else none
def xV(t:TypeId):Option (Bool×List SK):=match P.underlying t with
 | some (.int k)=>some (false,[.inl k])
 | some .string=>some (false,[.inr false])
 | some .bool=>some (false,[.inr true])
 | some (.struct fs)=>if P.stoodInHeld t=false then match xO P 0 fs.toList with
   | some l=>some (true,l)
   | none=>none
  else none
 | _=>none
def uf:AV->Bool
 | .bool _=>true
 | .int _ _=>true
 | .str _=>true
 | .nilp=>true
 | .nilf=>true
 | .fn _ [] []=>true
 | _=>false
def WV:AV->Bool
 | .agg cs=>cs.all uf
 | a=>uf a
def zR(has:List Sc->Bool)(k:List Sc):List Sc->Bool:=λx=>decide (x=k)||has x
def zB(get:List Sc->AV)(k:List Sc)(v:AV):List Sc->AV:=λx=>if x=k then v else get x
def XP(has:List Sc->Bool)(k:List Sc):List Sc->Bool:=λx=> !decide (x=k)&&has x
def xL:List Sc->Bool:=λ_=>false
def yn:List Sc->AV:=λ_=>.undef
def XC(h:Heap)(t:TypeId)(ok:Bool)(i:Nat)(key:AV):Tree AV:=match h[i]?,keyX key,P.underlying t with
 | some (.map ag sh has get _),some (ag',sh',k),some (.map kt et)=>match xV P kt,(P.info? et).bind (·.zero) with
  | some (ag2,sh2),some z=>if ag'=ag/\sh'=sh/\ag2=ag/\sh2=sh then .ite (has k) (.leaf (qL ok (get k) true)) (.leaf (qL ok (xH z) false)) else .fail
  | _,_=>.fail
 | _,_,_=>.fail
def yw(h:Heap)(t:TypeId)(ok:Bool):AV->AV->Tree AV
 | .omap i,key=>XC P h t ok i key
 | .mp k ag sz ks has get,.int k' n=>match P.underlying t with
  | some (.map kt et)=>match P.underlying kt,jA P et,(P.info? et).bind (·.zero) with
   | some (.int kk),some a,some z=>if k=k'/\kk=k/\a=ag then .ite (has n) (V0 ok ag sz get n ks) (.leaf (qL ok (xH z) false)) else .fail
   | _,_,_=>.fail
  | _=>.fail
 | _,_=>.fail
def Qn(i:Nat):AV->Tree AV
 | .tup vs=>match vs[i]? with
  | some v=>.leaf v
  | none=>.fail
 | _=>.fail
def KY(t:TypeId)(parts:List (Nat×AV)):Tree AV:=match P.underlying t with
 | some (.struct fs)=>match zeroCells P t with
  | some cs=>match vB (λi=>match fs[i]? with
    | some f=>(qj P f.type).map λn=>(f.offset,n)
    | none=>none) cs parts with
   | some cs=>if fs.all λf=>(qj P f.type).isSome then .leaf (.agg cs) else .fail
   | none=>.fail
  | none=>.fail
 | some (.array _ e)=>match zeroCells P t,qj P e with
  | some cs,some sz=>match vB (λi=>some (i*sz,sz)) cs parts with
   | some cs=>.leaf (.agg cs)
   | none=>.fail
  | _,_=>.fail
 | _=>.fail
def yr(b:Builtin):List AV->Tree AV
 | [.int k x,.int k' y]=>if k=k' then match b with
   | .max=>.leaf (.int k (max x y))
   | .min=>.leaf (.int k (min x y))
   | _=>.fail
  else .fail
 | _=>.fail
def valX(ρ:Operand->AV)(h:Heap)(op:Op):Tree AV:=match op with
 | .move x | .assign x=>.leaf (ρ x)
 | .build t parts=>KY P t (parts.toList.map λp=>(p.1,ρ p.2))
 | .load t a=>uQ P h t (ρ a)
 | .nilCheck x=>nilX (ρ x)
 | .binOp op t x y _=>binX P op t (ρ x) (ρ y)
 | .unOp op _ x=>unX op (ρ x)
 | .convert s t x=>KE P h s t (ρ x)
 | .makeFunc (.func f) first cap=>.leaf (.fn f (first.toList.map ρ) (cap.toList.map ρ))
 | .slice t x l h' none=>ud P t (l.map ρ) (h'.map ρ) (ρ x)
 | .slice t x l (some h) (some m)=>We P t (l.map ρ) (ρ h) (ρ m) (ρ x)
 | .fieldAddr t x f=>match xh P t f with
  | some (o,_,_)=>YW o (ρ x)
  | none=>.fail
 | .field t x f=>Xv P t f (ρ x)
 | .indexAddr t x i=>xf P t (ρ i) (ρ x)
 | .index t x i=>Va P t (ρ i) (ρ x)
 | .extract t i=>Qn i (ρ t)
 | .lookup t x i ok=>yw P h t ok (ρ x) (ρ i)
 | .call c=>match c.callee with
  | .builtin .len=>match c.argTypes.toList,c.args.toList with
   | [t],[x]=>lenX P t (ρ x)
   | _,_=>.fail
  | .builtin .max=>yr .max (c.args.toList.map ρ)
  | .builtin .min=>yr .min (c.args.toList.map ρ)
  | _=>.fail
 | _=>.fail
def jx:Nat:=140737488355328
def frzM(f:AV->Option (AV×List Nat)):List AV->Option (List AV×List Nat)
 | []=>some ([],[])
 | a::l=>match f a,frzM f l with
  | some (a,i),some (l,k)=>some (a::l,i++k)
  | _,_=>none
def frzD:Nat->Heap->AV->Option (AV×List Nat)
 | 0,_,_=>none
 | d+1,h,.osl i sz off n=>match jI h (.osl i sz off n) with
  | some (n,sz,g)=>some (.sl n sz g,[i])
  | none=>match h[i]? with
   | some (.box cs)=>if(off+n)*sz<=cs.length then match frzM (frzD d h) cs with
     | some (cs,k)=>some (.sl n sz (zf (zd sz cs) off),i::k)
     | none=>none
    else none
   | _=>none
 | _+1,_,.sl n sz g=>some (.sl n sz g,[])
 | _+1,_,.int k n=>some (.int k n,[])
 | _+1,_,.str s=>some (.str s,[])
 | _+1,_,.bool b=>some (.bool b,[])
 | _+1,_,.nils=>some (.nils,[])
 | _+1,_,_=>none
def frz1(h:Heap):AV->Option (AV×List Nat)
 | .osl i sz off n=>match jI h (.osl i sz off n) with
  | some (n,sz,g)=>some (.sl n sz g,[i])
  | none=>frzD 8 h (.osl i sz off n)
 | .ptr _ _=>none
 | .eptr _ _ _ _=>none
 | .omap _=>none
 | .agg _=>none
 | .tup _=>none
 | .fn f [] []=>some (.fn f [] [],[])
 | .fn _ _ _=>none
 | .opt _ _ _=>none
 | .undef=>none
 | x=>some (x,[])
def frzL(h:Heap):List AV->Option (List AV×List Nat)
 | []=>some ([],[])
 | a::l=>match frz1 h a,frzL h l with
  | some (a,i),some (l,k)=>some (a::l,i++k)
  | _,_=>none
def frz(h:Heap):AV->Option (AV×List Nat)
 | .agg cs=>match frzL h cs with
  | some (cs,k)=>some (.agg cs,k)
  | none=>none
 | .tup cs=>match frzL h cs with
  | some (cs,k)=>some (.tup cs,k)
  | none=>none
 | x=>frz1 h x
def wh(k:List Nat):List (Nat×Blk):=k.map λi=>(i,.dead)
def XY(h:Heap)(t:TypeId)(v:AV):AV->Tree Res
 | .ptr i off=>match h[i]?,qj P t,cellsOf v with
  | some (.box cells),some n,some cv=>if cv.length=n/\off+n<=cells.length/\cv.all oneA=true then .leaf ⟨.undef,[(i,.box (setAt cells off cv))],[]⟩ else .fail
  | _,_,_=>.fail
 | .eptr i sz idx off=>match h[i]?,qj P t,cellsOf v with
  | some (.arr n' sz' g),some n,some cv=>if sz=sz'/\cv.length=n/\off+n<=sz then match frzL h cv with
    | some (cv,k)=>if k.contains i then .fail else .leaf ⟨.undef,(i,.arr n' sz' (updG g idx off cv))::wh k,k⟩
    | none=>.fail
   else .fail
  | some (.arrI k n' f),some 1,some [.int k' v]=>if sz=1/\off=0/\k=k' then .leaf ⟨.undef,[(i,.arrI k n' (updI f idx v))],[]⟩ else .fail
  | some (.arrS n' f),some 1,some [.str v]=>if sz=1/\off=0 then .leaf ⟨.undef,[(i,.arrS n' (updS f idx v))],[]⟩ else .fail
  | some (.box cells),some n,some cv=>if cv.length=n/\(idx*sz+off)+n<=cells.length/\cv.all oneA=true then .leaf ⟨.undef,[(i,.box (setAt cells (idx*sz+off) cv))],[]⟩ else .fail
  | _,_,_=>.fail
 | _=>.fail
def Vj(sz:Nat)(h:Heap):AV->Option (Nat×(Nat->Nat->AV))
 | .nils=>some (0,λ_ _=>.undef)
 | x=>match jI h x with
  | some (n,sz',g)=>if sz'=sz then some (n,g) else none
  | none=>none
def Ws(h:Heap)(t tx:TypeId)(s x:AV):Tree Res:=match P.underlying t,P.underlying tx with
 | some (.slice e),some (.slice _)=>match P.info? e with
  | some i=>if i.bytes=0\/(zeroCells P e).map List.length≠some i.size then .fail else match Vj i.size h x,s with
   | some (n2,g2),.nils=>.side (n2*i.bytes<=jx) (.leaf ⟨.osl h.length i.size 0 n2,[(h.length,.arr n2 i.size g2)],[]⟩)
   | some (n2,g2),.osl b sz off n=>match h[b]? with
    | some (.arr n' sz' g)=>if sz=i.size/\sz'=i.size then
      .side (off=0/\n<=n'/\(n+n2)*i.bytes<=jx) (.leaf ⟨.osl b i.size 0 (n+n2),[(b,.arr (n+n2) i.size (appG n g g2))],[b]⟩)
     else .fail
    | _=>.fail
   | _,_=>.fail
  | none=>.fail
 | _,_=>.fail
def VK:AV->List Nat
 | .osl i _ _ _=>[i]
 | .ptr i _=>[i]
 | .eptr i _ _ _=>[i]
 | .omap i=>[i]
 | _=>[]
def VC:AV->List Nat
 | .agg cs=>cs.flatMap VK
 | .tup cs=>cs.flatMap VK
 | .fn _ a b=>a.flatMap VK++b.flatMap VK
 | x=>VK x
def zdv:AV->List Nat
 | .tup cs=>cs.flatMap VC
 | .fn _ a b=>a.flatMap VC++b.flatMap VC
 | x=>VC x
def zkw:Blk->List Nat
 | .box cs=>cs.flatMap VC
 | _=>[]
def ren0(f:Nat->Option Nat):AV->AV
 | .osl i sz off n=>match f i with
  | some j=>.osl j sz off n
  | none=>.undef
 | .ptr i off=>match f i with
  | some j=>.ptr j off
  | none=>.undef
 | .eptr i sz idx off=>match f i with
  | some j=>.eptr j sz idx off
  | none=>.undef
 | .omap i=>match f i with
  | some j=>.omap j
  | none=>.undef
 | .agg _=>.undef
 | .tup _=>.undef
 | .opt _ _ _=>.undef
 | .fn g a b=>match a,b with
  | [],[]=>.fn g [] []
  | _,_=>.undef
 | x=>x
def ren1(f:Nat->Option Nat):AV->AV
 | .agg cs=>.agg (cs.map (ren0 f))
 | .fn g a b=>.fn g (a.map (ren0 f)) (b.map (ren0 f))
 | x=>ren0 f x
def ren2(f:Nat->Option Nat):AV->AV
 | .tup cs=>.tup (cs.map (ren1 f))
 | .fn g a b=>.fn g (a.map (ren1 f)) (b.map (ren1 f))
 | x=>ren1 f x
def renB(f:Nat->Option Nat):Blk->Blk
 | .box cs=>.box (cs.map (ren1 f))
 | b=>b
def z4:List Nat->Nat->Option Nat
 | [],_=>none
 | x::l,i=>if x=i then some 0 else(z4 l i).map (· + 1)
def wP(L:List Nat)(d:Nat)(j:Nat):Option Nat:=if j<L.length then L[j]? else some (d+(j - L.length))
def w8:List Nat->Bool
 | []=>true
 | i::l=> !l.contains i&&w8 l
def reach(h:Heap):Nat->List Nat->List Nat->List Nat
 | 0,_,acc=>acc
 | _+1,[],acc=>acc
 | n+1,i::t,acc=>if acc.contains i then reach h n t acc else reach h n ((match h[i]? with
  | some b=>zkw b
  | none=>[])++t) (acc++[i])
def wR:List Nat->Nat->List Blk->List (Nat×Blk)
 | [],d,b::l=>(d,b)::wR [] (d+1) l
 | i::L,d,b::l=>(i,b)::wR L d l
 | _,_,[]=>[]
def Y3(h:Heap)(c:Ctr)(args:List AV)(L:List Nat):Tree Res:=
 if(L.all λi=>decide (i<h.length))&&w8 L then
  (c.spec (args.map (ren2 (z4 L))) (L.map λi=>renB (z4 L) (h.getD i .dead))).bind λr=>
   if L.length<=r.2.length then .leaf ⟨ren2 (wP L h.length) r.1,wR L h.length (r.2.map (renB (wP L h.length))),bif c.wS then L.drop c.pins else []⟩ else .fail
 else .fail
def zx:List Nat->Heap->Heap
 | [],h=>h
 | i::k,h=>zx k (h.map (J2 i))
def z7:List Nat->AV->AV
 | [],a=>a
 | i::K,a=>z7 K (zY i a)
def vH(K:List Nat)(h:Heap)(a:AV):AV:=match frz h a with
 | some (a',k)=>bif k.all K.contains then a' else z7 K a
 | none=>z7 K a
def zfa(h:Heap)(c:Ctr)(args:List AV)(K:List Nat):Tree Res:=
 if(K.all λi=>decide (i<h.length)) then(Y3 (zk (zx K h) (wh K)) c (args.map (vH K h)) (reach (zk (zx K h) (wh K)) 60 ((args.map (vH K h)).flatMap zdv) [])).bind λr=>.leaf ⟨r.val,wh K++r.eff,K++r.kill⟩ else .fail
def zf9(h:Heap)(f:Nat)(args:List AV):Tree Res:=match Γ f with
 | some c=>match c.fresh with
  | true=>match args.mapM λa=>frz h a with
   | some l=>(c.spec (l.map (·.1)) []).bind λr=>.leaf ⟨ren2 (wP [] h.length) r.1,wR [] h.length (r.2.map (renB (wP [] h.length))),[]⟩
   | none=>.fail
  | false=>bif c.sinks then zfa h c args ((args.filterMap (frz h)).flatMap (·.2)) else Y3 h c args (reach h 60 (args.flatMap zdv) [])
 | none=>.fail
def Qd(h:Heap)(t:TypeId):Tree Res:=match P.underlying t with
 | some (.map kt _)=>match xV P kt with
  | some (ag,sh)=>.leaf ⟨.omap h.length,[(h.length,.map ag sh xL yn)],[]⟩
  | none=>.fail
 | _=>.fail
def YY(h:Heap)(t:TypeId)(m key v:AV):Tree Res:=match m with
 | .omap i=>match h[i]?,keyX key,P.underlying t with
  | some (.map ag sh has get _),some (ag',sh',k),some (.map kt _)=>match xV P kt with
   | some (ag2,sh2)=>if ag'=ag/\sh'=sh/\ag2=ag/\sh2=sh/\WV v=true then .leaf ⟨.undef,[(i,.map ag sh (zR has k) (zB get k v))],[]⟩ else .fail
   | none=>.fail
  | _,_,_=>.fail
 | _=>.fail
def zcf(h:Heap)(t:TypeId)(m key:AV):Tree Res:=match m with
 | .omap i=>match h[i]?,keyX key,P.underlying t with
  | some (.map ag sh has get _),some (ag',sh',k),some (.map kt _)=>match xV P kt with
   | some (ag2,sh2)=>if ag'=ag/\sh'=sh/\ag2=ag/\sh2=sh then .leaf ⟨.tup [],[(i,.map ag sh (XP has k) get)],[]⟩ else .fail
   | none=>.fail
  | _,_,_=>.fail
 | _=>.fail
def zfc(h:Heap)(t:TypeId)(m key:AV):Tree Res:=match m with
 | .omap i=>match h[i]?,keyX key,P.underlying t with
  | some (.map ag sh has get _),some (ag',sh',k),some (.map kt et)=>match xV P kt,(P.info? et).bind (·.zero) with
   | some (ag2,sh2),some _=>if ag'=ag/\sh'=sh/\ag2=ag/\sh2=sh then .all (λ_:Int=>True) λst=>.leaf ⟨.tup [.undef,.i st],[(i,.map ag sh (zR has k) (zB get k .undef) (some (k,st)))],[]⟩ else .fail
   | _,_=>.fail
  | _,_,_=>.fail
 | _=>.fail
def zc8(h:Heap)(m stamp v:AV):Tree Res:=match m,stamp with
 | .omap i,.int _ st=>match h[i]? with
  | some (.map ag sh has get (some (k,st')))=>if WV v=true then .side (st=st') (.leaf ⟨.undef,[(i,.map ag sh has (zB get k v))],[]⟩) else .fail
  | _=>.fail
 | _,_=>.fail
def zks:AV->Bool
 | .osl _ _ _ _=>true
 | _=>false
def opX(ρ:Operand->AV)(h:Heap)(op:Op):Tree Res:=match op with
 | .alloc t=>match zeroCells P t with
  | some cs=>.leaf ⟨.ptr h.length 0,[(h.length,.box cs)],[]⟩
  | none=>.fail
 | .box _ x=>match cellsOf (ρ x) with
  | some cs=>.leaf ⟨.ptr h.length 0,[(h.length,.box cs)],[]⟩
  | none=>.fail
 | .buildSlice t len parts=>match P.underlying t with
  | some (.slice e)=>match zeroCells P e,qj P e with
   | some cs,some sz=>if len*sz<=16777216/\cs.length=sz then match vB (λi=>some (i*sz,sz)) (List.replicate len cs).flatten (parts.toList.map λp=>(p.1,ρ p.2)) with
    | some cs=>bif cs.any zks then .leaf ⟨.osl h.length sz 0 len,[(h.length,.box cs)],[]⟩ else match frzL h cs with
     | some (cs,k)=>.leaf ⟨.osl h.length sz 0 len,(h.length,.arr len sz (zd sz cs))::wh k,k⟩
     | none=>.fail
    | none=>.fail
    else .fail
   | _,_=>.fail
  | _=>.fail
 | .store t a v=>XY P h t (ρ v) (ρ a)
 | .makeMap t none=>Qd P h t
 | .mapUpdate t m k v=>YY P h t (ρ m) (ρ k) (ρ v)
 | .insert t m k v=>YY P h t (ρ m) (ρ k) (ρ v)
 | .mapEntry t m k=>zfc P h t (ρ m) (ρ k)
 | .entryStore _ m s v=>zc8 h (ρ m) (ρ s) (ρ v)
 | .makeSlice t l c=>match P.underlying t,ρ l,ρ c with
  | some (.slice e),.int _ l,.int _ c=>match P.info? e,zeroCells P e with
   | some i,some z=>if z.length=i.size/\z.all oneA=true then .side (0<=l/\l<=c/\inR .i64 c/\c.toNat*i.bytes<=jx) (.leaf ⟨.osl h.length i.size 0 l.toNat,[(h.length,.arr l.toNat i.size (qb z))],[]⟩) else .fail
   | _,_=>.fail
  | _,_,_=>.fail
 | .call c=>match c.callee with
  | .builtin .append=>match c.argTypes.toList,c.args.toList with
   | [t,tx],[s,x]=>Ws P h t tx (ρ s) (ρ x)
   | _,_=>.fail
  | .builtin .delete=>match c.argTypes.toList,c.args.toList with
   | [t,_],[m,k]=>zcf P h t (ρ m) (ρ k)
   | _,_=>.fail
  | .builtin _=>(valX P ρ h (.call c)).bind λv=>.leaf ⟨v,[],[]⟩
  | .value f=>match ρ f with
   | .fn g first cap=>zf9 Γ h g (first++c.args.toList.map ρ++cap)
   | _=>.fail
  | _=>.fail
 | op=>(valX P ρ h op).bind λv=>.leaf ⟨v,[],[]⟩
def zd3(ρ':Bool->AV):AV->Tree AV
 | .bool c=>match ρ' true,ρ' false with
  | .bool x,.bool y=>.leaf (.bool (bif c then x else y))
  | _,_=>.fail
 | _=>.fail
variable [Stat]
def see(K:List (Nat×Bool)):AV->AV
 | .opt t want x=>if K.contains (t,want) then x else .undef
 | x=>x
def zM(st:St)(K:List (Nat×Bool)):Operand->AV
 | .tmp t=>see K (st.tmps.getD t .undef)
 | .const v=>xH v
 | .func f=>.fn f [] []
 | .global g=>match Stat.z g with
  | some a=>.iptr 1 λ_=>a
  | none=>.gptr g
def qh(t:Nat):AV->AV
 | .opt u want x=>if u=t then .undef else .opt u want x
 | x=>x
def v9:List Nat->List AV->List AV
 | [],ts=>ts
 | i::k,ts=>v9 k (ts.map (zY i))
def putX(st:St)(dst:Option Nat)(r:Res):St:=
 match dst with
 | some d=>⟨((v9 r.kill st.tmps).map (qh d)).set d r.val,zk (zx r.kill st.heap) r.eff⟩
 | none=>⟨v9 r.kill st.tmps,zk (zx r.kill st.heap) r.eff⟩
def qN(tmps:List AV):Nat->Nat->Bool->List (Nat×Bool)
 | 0,t,want=>[(t,want)]
 | d+1,t,want=>(t,want)::match tmps.getD t .undef with
  | .opt u w _=>qN tmps d u w
  | _=>[]
def jH(tmps:List AV):Nat->Nat->Bool->Option Prop
 | 0,_,_=>none
 | d+1,t,want=>match tmps.getD t .undef with
  | .bool b=>some (b=want)
  | .opt u w (.bool b)=>match jH tmps d u w with
   | some p=>some (p/\b=want)
   | none=>none
  | _=>none
def pinX{α:Type}(pin:Nat)(r:Res)(t:Tree α):Tree α:=match r.kill with
 | []=>t
 | k=>if k.all λi=>decide (pin<=i) then t else .fail
def zfr(st:St)(K:List (Nat×Bool))(c a b:Operand):Tree AV:=match c with
 | .tmp u=>zd3 (λw=>match w with | true=>zM st ((u,true)::K) a | false=>zM st ((u,false)::K) b) (zM st K c)
 | _=>.fail
def opV(st:St)(K:List (Nat×Bool))(op:Op):Tree Res:=match op with
 | .pick c a b=>(zfr st K c a b).bind λv=>.leaf ⟨v,[],[]⟩
 | op=>opX P Γ (zM st K) st.heap op
def vW(q:Prop)(t:Nat)(want:Bool):Tree Res->Tree Res
 | .leaf ⟨v,[],[]⟩=>.leaf ⟨.opt t want v,[],[]⟩
 | .leaf _=>.fail
 | .ite b x y=>.ite b (vW q t want x) (vW q t want y)
 | .side p x=>.side (q->p) (vW q t want x)
 | .ex p k=>.ex (λx=>q->p x) λx=>vW q t want (k x)
 | .all p k=>.all (λx=>q->p x) λx=>vW q t want (k x)
 | .fail=>.fail
def xe(tmps:List AV):Nat->Nat->Bool->Option Bool
 | 0,_,_=>none
 | d+1,t,want=>match tmps.getD t .undef with
  | .bool b=>some (b == want)
  | .opt u w (.bool b)=>match xe tmps d u w with
   | some g=>some (g&&(b == want))
   | none=>none
  | _=>none
def kL(ρ:Operand->AV)(h:Heap):Op->Bool
 | .call c=>match c.callee with
  | .value f=>match ρ f with
   | .fn g first cap=>match Γ g with
    | some ctr=> !ctr.fresh && !(reach h 60 ((first++c.args.toList.map ρ++cap).flatMap zdv) []).isEmpty
    | none=>false
   | _=>false
  | .builtin .append=>true
  | _=>false
 | .buildSlice _ _ _=>true
 | _=>false
def zfl(t:TypeId):AV:=match P.info? t with
 | some i=>match i.zero with
  | some v=>xH v
  | none=>.undef
 | none=>.undef
def WB(st:St)(t:Nat)(want:Bool)(o:Oper):Tree Res:=match xe st.tmps 4 t want,o.dst with
 | some g,some d=>if d≠t then .ite g ((opV P Γ st (qN st.tmps 4 t want) o.op).bind λr=>.leaf ⟨see [] r.val,r.eff,r.kill⟩) (.leaf ⟨.opt t want (zfl P o.type),[],[]⟩) else .fail
 | _,_=>.fail
def qZ(ops:Array Oper)(st:St)(o:Oper):Tree Res:=match o.guard with
 | none=>(opV P Γ st [] o.op).bind λr=>.leaf ⟨see [] r.val,r.eff,r.kill⟩
 | some (j,want)=>match(ops[j]?).bind (·.dst) with
  | none=>.fail
  | some t=>match kL Γ (zM st (qN st.tmps 4 t want)) st.heap o.op with
   | true=>WB P Γ st t want o
   | false=>match jH st.tmps 4 t want,o.dst with
    | some q,some d=>if d≠t then vW q t want (opV P Γ st (qN st.tmps 4 t want) o.op) else .fail
    | _,_=>.fail
def botS:St:=⟨[.bot],[]⟩
def uY(st:St):Bool:=match st.tmps with
 | .bot::_=>true
 | _=>false
def botR(st:St)(dst:Option Nat)(r:Res):Bool:=match r.val with
 | .bot=>match dst with
  | some d=>match r.kill with
   | []=>decide (d<st.tmps.length)
   | _=>false
  | none=>false
 | _=>false
def zdy(pin:Nat)(ops:Array Oper)(st:St)(o:Oper):Tree St:=(qZ P Γ ops st o).bind λr=>bif botR st o.dst r then .leaf botS else pinX pin r (.leaf (putX st o.dst r))
def opsX(pin:Nat)(ops:Array Oper):List Oper->St->Tree St
 | [],st=>.leaf st
 | o::rest,st=>(zdy P Γ pin ops st o).bind λst'=>bif uY st' then .leaf botS else opsX pin ops rest st'
def wu(o:Oper):List Nat:=o.after.toList.filterMap λe=>if Region.binds .any e then some e.on else none
def KB(ops:Array Oper)(L:List Nat)(i:Nat):Bool:= !L.contains i&&match ops[i]? with
 | some o=>(wu o).all λk=>L.contains k
 | none=>false
def kD(ops:Array Oper)(L:List Nat):List Nat:=(List.range ops.size).filter (KB ops L)
def ancs(ops:Array Oper):Nat->List Nat->List Nat->List Nat
 | 0,_,acc=>acc
 | _+1,[],acc=>acc
 | n+1,i::t,acc=>if acc.contains i then ancs ops n t acc else ancs ops n ((match ops[i]? with
  | some o=>wu o
  | none=>[])++t) (i::acc)
def jX(ops:Array Oper)(o:Oper):List Nat:=ancs ops 300 (wu o) []
def zcq(o:Oper):List Nat:=o.op.operands.toList.filterMap fun | .tmp t=>some t | _=>none
def zee:AV->List Nat
 | .opt u _ _=>[u]
 | _=>[]
def jz(tmps:List AV):Nat->Nat->List Nat
 | 0,t=>[t]
 | n+1,t=>t::match tmps.getD t .undef with
  | .opt u _ _=>jz tmps n u
  | _=>[]
def qO(ops:Array Oper)(tmps:List AV)(o:Oper):List Nat:=zcq o++match o.guard with
 | some (j,_)=>match(ops[j]?).bind (·.dst) with
  | some t=>jz tmps 4 t
  | none=>[]
 | none=>[]
def zQ(ops:Array Oper)(tmps:List AV)(o:Oper):List Nat:=qO ops tmps o++(qO ops tmps o).flatMap λt=>zee (tmps.getD t .undef)
def qc(ρ:Operand->AV):Op->Option (List Nat)
 | .load _ a=>match ρ a with
  | .ptr i _=>some [i]
  | .eptr i _ _ _=>some [i]
  | .iptr _ _=>some []
  | _=>none
 | .convert _ _ x=>match ρ x with
  | .int _ _=>some []
  | .str _=>some []
  | _=>none
 | .move _ | .assign _ | .build _ _ | .nilCheck _ | .binOp _ _ _ _ _ | .unOp _ _ _ | .makeFunc _ _ _ | .slice _ _ _ _ _ | .fieldAddr _ _ _ | .field _ _ _ | .indexAddr _ _ _ | .index _ _ _ | .extract _ _ | .pick _ _ _=>some []
 | .call c=>match c.callee with
  | .builtin .len=>some []
  | .builtin .max=>some []
  | .builtin .min=>some []
  | _=>none
 | _=>none
def k9(ops:Array Oper)(st:St)(o:Oper):List (Nat×Bool):=match o.guard with
 | some (j,want)=>match(ops[j]?).bind (·.dst) with
  | some t=>qN st.tmps 4 t want
  | none=>[]
 | none=>[]
structure Ent where
 k:Nat
 d:Nat
 looks:List Nat
 labs:List Nat
 x:AV
def zdo(ops:Array Oper)(st:St)(i:Nat):Option Ent:=match ops[i]? with
 | some o=>match o.dst,qc (zM st (k9 ops st o)) o.op with
  | some d,some ls=>if(zQ ops st.tmps o).contains d || !(ls.all λi=>decide (i<st.heap.length)) then none else match(qZ P Γ ops st o).chain with
   | some (_,⟨x,[],[]⟩)=>some ⟨i,d,zQ ops st.tmps o,ls,x⟩
   | _=>none
  | _,_=>none
 | none=>none
def wE(A:List Nat)(dst:Option Nat)(looks:List Nat)(quiet:Bool)(e:Ent):Bool:=
 (A.contains e.k&&(!quiet||match dst with
  | some d=> !e.looks.contains d && !(d == e.d)
  | none=>true)) ||
 ((match dst with
  | some d=> !e.looks.contains d && !(d == e.d)
  | none=>true) && !looks.contains e.d)
def kW(K:List Nat):AV->Bool
 | .osl i _ _ _=> !K.contains i
 | .eptr i _ _ _=> !K.contains i
 | .ptr i _=> !K.contains i
 | .omap i=> !K.contains i
 | .agg _=>false
 | .tup _=>false
 | .fn _ a b=>a.isEmpty&&b.isEmpty
 | .opt _ _ _=>false
 | _=>true
def uZ(K:List Nat):AV->Bool
 | .agg cs=>cs.all (kW K)
 | .tup cs=>cs.all (kW K)
 | x=>kW K x
def zbg(K:List Nat):Blk->Bool
 | .box cs=>cs.all (uZ K)
 | _=>true
def effK(A:List Nat)(st:St)(r:Res)(e:Ent):Bool:=A.contains e.k||(r.kill.isEmpty||(uZ r.kill e.x&&e.looks.all (λt=>uZ r.kill (st.tmps.getD t .undef))))
def effE(A:List Nat)(st:St)(r:Res)(e:Ent):Bool:=A.contains e.k||(r.eff.all (λp=> !e.labs.contains p.1)&&(r.kill.isEmpty||e.labs.all λi=>zbg r.kill (st.heap.getD i .dead)))
def W3:AV->AV->Option Prop
 | .str s,.str t=>some (s=t)
 | .int k n,.int k' n'=>if k=k' then some (n=n') else none
 | .bool a,.bool b=>some (a=b)
 | .ptr i o,.ptr j q=>if i=j/\o=q then some True else none
 | .eptr i z x o,.eptr j y x' q=>if i=j/\z=y/\o=q then some (x=x') else none
 | .omap i,.omap j=>if i=j then some True else none
 | .fn f [] [],.fn g [] []=>some (f=g)
 | .nils,.nils=>some True
 | .nilp,.nilp=>some True
 | .nilf,.nilf=>some True
 | .sl n z g,.sl m y h=>some (n=m/\z=y/\g=h)
 | .osl i z o n,.osl j y q m=>if i=j/\z=y then some (o=q/\n=m) else none
 | _,_=>none
def JQ:List AV->List AV->Option Prop
 | [],[]=>some True
 | a::l,b::m=>match W3 a b with
  | some p=>match JQ l m with
   | some q=>some (p/\q)
   | none=>none
  | none=>none
 | _,_=>none
def Wy:AV->AV->Option Prop
 | .agg cs,.agg ds=>JQ cs ds
 | a,b=>W3 a b
def uH{α:Type}(ops:Array Oper)(st:St):List Ent->Tree α->Tree α
 | [],t=>t
 | e::l,t=>match ops[e.k]? with
  | some o=>(qZ P Γ ops st o).bind λr=>match r with
   | ⟨x,[],[]⟩=>match Wy x e.x with
    | some p=>.side p (uH ops st l t)
    | none=>.fail
   | _=>.fail
  | none=>.fail
def ziz(ops:Array Oper)(st:St)(res:List Ent)(i:Nat):Option Ent:=match zdo P Γ ops st i with
 | some e=>match ops[e.k]? with
  | some o=>if res.all (wE (jX ops o) o.dst (zQ ops st.tmps o) true) then some e else none
  | none=>none
 | none=>none
def YQ{α:Type} : List (Tree α)->Tree α
 | []=>.fail
 | [t]=>t
 | t::l=>.all (λ_:Bool=>True) λb=>.ite b t (YQ l)
def anyX(pin:Nat)(ops:Array Oper):Nat->List Nat->List Ent->St->Tree St
 | 0,_,_,_=>.fail
 | n+1,L,res,st=>match kD ops L with
  | []=>.leaf st
  | i0::rs=>match(i0::rs).findSome? (ziz P Γ ops st res) with
   | some e=>match ops[e.k]? with
    | some o=>if res.all (wE (jX ops o) o.dst (zQ ops st.tmps o) true)&&(i0::rs).contains e.k then
      (qZ P Γ ops st o).bind λr=>anyX pin ops n (e.k::L) (e::res) (putX st o.dst r)
     else .fail
    | none=>.fail
   | none=>YQ ((i0::rs).map λi=>match ops[i]? with
    | some o=>if res.all (wE (jX ops o) o.dst (zQ ops st.tmps o) false) then
      (qZ P Γ ops st o).bind λr=>bif botR st o.dst r then .leaf botS else if res.all (effK (jX ops o) st r) then pinX pin r (uH P Γ ops (putX st o.dst r) (res.filter λe=> !effE (jX ops o) st r e) (anyX pin ops n (i::L) res (putX st o.dst r))) else .fail
     else .fail
    | none=>.fail)
def ym(st:St):St:=⟨st.tmps.map fun | .opt _ _ _=>.undef | x=>x,st.heap⟩
def WX{α:Type u} : AV->(AV->α)->α
 | .undef,f=>f .undef
 | .bool b,f=>f (.bool b)
 | .int k n,f=>f (.int k n)
 | .str s,f=>f (.str s)
 | .nils,f=>f .nils
 | .sl n sz g,f=>f (.sl n sz g)
 | .osl i sz off n,f=>f (.osl i sz off n)
 | .ptr i off,f=>f (.ptr i off)
 | .nilp,f=>f .nilp
 | .eptr i sz idx off,f=>f (.eptr i sz idx off)
 | .iptr m g,f=>f (.iptr m g)
 | .gptr g,f=>f (.gptr g)
 | .agg cs,f=>f (.agg cs)
 | .tup cs,f=>f (.tup cs)
 | .fn g a b,f=>f (.fn g a b)
 | .nilf,f=>f .nilf
 | .bot,f=>f .bot
 | .opt t w x,f=>f (.opt t w x)
 | .mp k ag sz ks has get,f=>f (.mp k ag sz ks has get)
 | .omap i,f=>f (.omap i)
def kH{α:Type u} : List AV->(List AV->α)->α
 | [],f=>f []
 | a::l,f=>WX a λa=>kH l λl=>f (a::l)
def XJ{α:Type u} : AV->(AV->α)->α
 | .agg cs,f=>kH cs λcs=>f (.agg cs)
 | .tup cs,f=>kH cs λcs=>f (.tup cs)
 | .fn g a b,f=>kH a λa=>kH b λb=>f (.fn g a b)
 | x,f=>WX x f
def ZW{α:Type u} : List AV->(List AV->α)->α
 | [],f=>f []
 | a::l,f=>XJ a λa=>ZW l λl=>f (a::l)
def jY{α:Type u} : Heap->(Heap->α)->α
 | [],f=>f []
 | .dead::l,f=>jY l λl=>f (.dead::l)
 | .box cs::l,f=>ZW cs λcs=>jY l λl=>f (.box cs::l)
 | .arr n sz g::l,f=>jY l λl=>f (.arr n sz g::l)
 | .map ag sh has get pe::l,f=>jY l λl=>f (.map ag sh has get pe::l)
 | .arrI k n g::l,f=>jY l λl=>f (.arrI k n g::l)
 | .arrS n g::l,f=>jY l λl=>f (.arrS n g::l)
def force{α:Type u}(st:St)(f:St->α):α:=ZW st.tmps λt=>jY st.heap λh=>f ⟨t,h⟩
theorem Zt{α:Type u}(a:AV)(f:AV->α):WX a f=f a:=by cases a<;>rfl
theorem ZE{α:Type u} : ∀ (l:List AV) (f:List AV->α),kH l f=f l
 | [],_=>rfl
 | a::l,f=>by simp only [kH,Zt,ZE l]
theorem zae{α:Type u}(a:AV)(f:AV->α):XJ a f=f a:=by cases a<;>simp only [XJ,Zt,ZE]
theorem u5{α:Type u} : ∀ (l:List AV) (f:List AV->α),ZW l f=f l
 | [],_=>rfl
 | a::l,f=>by simp only [ZW,zae,u5 l]
theorem wq{α:Type u} : ∀ (l:Heap) (f:Heap->α),jY l f=f l
 | [],_=>rfl
 | .dead::l,f=>by simp only [jY,wq l]
 | .box cs::l,f=>by simp only [jY,u5,wq l]
 | .arr n sz g::l,f=>by simp only [jY,wq l]
 | .map ag sh has get pe::l,f=>by simp only [jY,wq l]
 | .arrI k n g::l,f=>by simp only [jY,wq l]
 | .arrS n g::l,f=>by simp only [jY,wq l]
theorem force_eq{α:Type u}(st:St)(f:St->α):force st f=f st:=by simp only [force,u5,wq]
inductive Item where
 | code (c:Code)
 | inBlock (id:Nat)
 | inLoop
inductive Leaf where
 | ret (st:St)
 | back (d:Nat) (st:St)
 | loop (c:Code) (k:List Item) (st:St)
 | range (c:Code) (k:List Item) (st:St)
 | gone
def j7:List Item->Nat
 | []=>0
 | .inLoop::k=>j7 k+1
 | _::k=>j7 k
def exitTo(id:Nat):List Item->Option (List Item)
 | []=>none
 | .inBlock i::k=>if i=id then some k else exitTo id k
 | _::k=>exitTo id k
def run(pin:Nat):Nat->List Item->St->Tree Leaf
 | 0,_,_=>.fail
 | _+1,[],st=>.leaf (.ret st)
 | n+1,.inBlock _::k,st=>run pin n k st
 | _+1,.inLoop::k,st=>.leaf (.back (j7 k) st)
 | n+1,.code c::k,st=>match c with
  | .skip=>run pin n k st
  | .seq a b=>run pin n (.code a::.code b::k) st
  | .region _ ops false=>(opsX P Γ pin ops ops.toList st).bind λst'=>bif uY st' then .leaf .gone else force (ym st') (run pin n k)
  | .region _ ops true=>(anyX P Γ pin ops (2*ops.size+2) [] [] st).bind λst'=>bif uY st' then .leaf .gone else force (ym st') (run pin n k)
  | .cond (.tmp t) x y=>match st.tmps.getD t .undef with
   | .bool b=>.ite b (run pin n (.code x::k) st) (run pin n (.code y::k) st)
   | _=>.fail
  | .block id c=>run pin n (.code c::.inBlock id::k) st
  | .loop c=>.leaf (.loop c k st)
  | .rangeFunc g ps x y=>.leaf (.range (.rangeFunc g ps x y) k st)
  | .exit id=>match exitTo id k with
   | some k'=>run pin n k' st
   | none=>.fail
  | .ret=>.leaf (.ret st)
  | _=>.fail
end
end Go.Sx
end
section
namespace Go.Sx
variable [Stat]
open Go.RowKit (Below)
structure SE where
 ad:Option Addr
 n:Nat
def KQ(w:World)(b:Nat)(g:Nat):Prop:=(Stat.z g).isSome=true/\w.cell? ⟨g,0,none⟩=some (.map (some b))
mutual
def Rep(own:Nat->Prop)(w:World):AV->List SE->Value->Prop
 | .undef,_,_=>True
 | .bool b,_,v=>v = .bool b
 | .int k n,_,v=>v = .int k n
 | .str s,_,v=>v = .string ⟨s.toArray⟩
 | .nils,_,v=>v = .slice none 0 0
 | .sl n sz get,_,v=>∃ a cap,v = .slice a n cap/\n<=cap/\(n=0\/∃ ad,a=some ad/\ad.spot=none /\
   ∀ j o,j<n->o<sz->¬ own ad.block/\∃ c,w.cell? ⟨ad.block,ad.off+(j*sz+o),none⟩=some c/\c.oneCell'=true/\Rep own w (get j o) [] c)
 | .osl i sz off n,σ,v=>∃ e,σ[i]?=some e/\off+n<=e.n/\∃ a cap,v = .slice a n cap/\n<=cap /\
   (cap=0\/∃ ad,e.ad=some ad/\a=some ⟨ad.block,ad.off+off*sz,none⟩ /\
    ∃ cs el,w.heap[ad.block]?=some (.cells cs el (0,0))/\ad.off+(off+cap)*sz<=cs.size)
 | .ptr i off,σ,v=>∃ e ad,σ[i]?=some e/\e.ad=some ad/\v = .pointer (some ⟨ad.block,ad.off+off,none⟩)
 | .nilp,_,v=>v = .pointer none
 | .eptr i sz idx off,σ,v=>∃ e ad,σ[i]?=some e/\e.ad=some ad/\idx<e.n/\v = .pointer (some ⟨ad.block,ad.off+(idx*sz+off),none⟩)
 | .iptr m get,_,v=>∃ ad,v = .pointer (some ad)/\ad.spot=none /\
   ∀ o,o<m->¬ own ad.block/\∃ c,w.cell? ⟨ad.block,ad.off+o,none⟩=some c/\Rep own w (get o) [] c
 | .gptr g,_,v=>v = .pointer (some ⟨g,0,none⟩)
 | .agg cs,σ,v=>∃ vs:List Value,v = .agg vs.toArray/\RepL own w cs σ vs
 | .tup cs,σ,v=>∃ vs:List Value,v = .tuple vs.toArray/\RepL own w cs σ vs
 | .fn f a b,σ,v=>∃ va vb:List Value,v = .func (.func f) va.toArray vb.toArray/\RepL own w a σ va/\RepL own w b σ vb
 | .nilf,_,v=>v = .nilFunc
 | .bot,_,_=>False
 | .opt _ _ _,_,_=>True
 | .mp k ag sz ks has get,_,v=>∃ b es clock,v = .map (some b)/\¬ own b/\(∃ g,¬ own g/\KQ w b g)/\w.heap[b]?=some (.map es clock) /\
   ∀ n,(has n=false->Instr.findNow (.int k) (.int k n) es.toList 0=some none) /\
    (has n=true->∃ i x,Instr.findNow (.int k) (.int k n) es.toList 0=some (some (i,x)) /\
     match ag with
     | true=>∃ vs:List Value,x = .agg vs.toArray/\vs.length=sz/\∀ o,o<sz->∃ c,vs[o]?=some c/\Rep own w (get n o) [] c
     | false=>Rep own w (get n 0) [] x)
 | .omap i,σ,v=>∃ e ad,σ[i]?=some e/\e.ad=some ad/\v = .map (some ad.block)
def RepL(own:Nat->Prop)(w:World):List AV->List SE->List Value->Prop
 | [],_,vs=>vs=[]
 | a::l,σ,vs=>∃ v r,vs=v::r/\Rep own w a σ v/\RepL own w l σ r
end
def Own(O:Nat->Prop)(σ:List SE)(b:Nat):Prop:=O b\/∃ e∈σ,∃ ad,e.ad=some ad/\ad.block=b
structure vC(own:Nat->Prop)(w:World):Prop where
 at_:∀ (g:Nat) (a:AV),Stat.z g=some a->¬ own g/\∃ c,w.cell? ⟨g,0,none⟩=some c/\Rep own w a [] c/\∀ b,c = .map (some b)->b<w.heap.size
structure Good(O:Nat->Prop)(w:World)(σ:List SE):Prop where
 old:∀ b,O b->b<w.heap.size
 dis:∀ (i:Nat) (e:SE) (ad:Addr),σ[i]?=some e->e.ad=some ad->¬ O ad.block
 stat:vC (Own O σ) w
def scV:SK->Sc->AV
 | .inl k,.inl n=>.int k n
 | .inr false,.inr s=>.str s
 | .inr true,.inl n=>.bool (decide (n=1))
 | _,_=>.undef
def okSc:SK->Sc->Prop
 | .inl _,.inl _=>True
 | .inr false,.inr _=>True
 | .inr true,.inl n=>n=0\/n=1
 | _,_=>False
def qI:List SK->List Sc->Prop
 | [],[]=>True
 | k::ks,s::ss=>okSc k s/\qI ks ss
 | _,_=>False
def keyA(ag:Bool)(sh:List SK)(k:List Sc):AV:=bif ag then .agg (List.zipWith scV sh k) else scV (sh.headD (.inr false)) (k.headD (.inl 0))
def xq(own:Nat->Prop)(w:World)(ag:Bool)(sh:List SK)(get:List Sc->AV):List MapEntry->List (List Sc)->Prop
 | [],[]=>True
 | e::es,k::ks=>qI sh k/\Rep own w (keyA ag sh k) [] e.key/\Rep own w (get k) [] e.val/\xq own w ag sh get es ks
 | _,_=>False
structure wj(es:Array MapEntry)(clock:Nat)(l:List (List Sc))(pe:Option (List Sc×Int)):Prop where
 nd:(es.toList.map (·.born)).Nodup
 lt:∀ x∈es.toList,x.born<clock
 pend:∀ k st,pe=some (k,st)->∃ (i:Nat) (e:MapEntry),es[i]?=some e/\l[i]?=some k/\(e.born:Int)=st
def BRep(own:Nat->Prop)(w:World)(σ:List SE)(e:SE):Blk->Prop
 | .dead=>True
 | .map ag sh has get pe=>∃ ad es clock l,e.ad=some ad/\w.heap[ad.block]?=some (.map es clock)/\(ag=false->sh.length=1)/\(l.Nodup/\wj es clock l pe)/\(∀ k,has k=true↔k∈l)/\xq own w ag sh get es.toList l
 | .box cells=>∃ ad vs el,e.ad=some ad/\ad.off=0/\w.heap[ad.block]?=some (.cells (List.toArray vs) el (0,0))/\RepL own w cells σ vs
 | .arr n sz get=>e.n=n/\(n=0\/∃ ad cs el,e.ad=some ad/\w.heap[ad.block]?=some (.cells cs el (0,0))/\ad.off+n*sz<=cs.size /\
   ∀ j o,j<n->o<sz->∃ c,cs[ad.off+(j*sz+o)]?=some c/\c.oneCell'=true/\Rep own w (get j o) [] c)
 | .arrI k n f=>e.n=n/\(n=0\/∃ ad cs el,e.ad=some ad/\w.heap[ad.block]?=some (.cells cs el (0,0))/\ad.off+n*1<=cs.size /\
   ∀ j o,j<n->o<1->∃ c,cs[ad.off+(j*1+o)]?=some c/\c.oneCell'=true/\Rep own w (tgI k f j o) [] c)
 | .arrS n f=>e.n=n/\(n=0\/∃ ad cs el,e.ad=some ad/\w.heap[ad.block]?=some (.cells cs el (0,0))/\ad.off+n*1<=cs.size /\
   ∀ j o,j<n->o<1->∃ c,cs[ad.off+(j*1+o)]?=some c/\c.oneCell'=true/\Rep own w (tgS f j o) [] c)
theorem kV{own:Nat->Prop}{w:World}{σ:List SE}{e:SE}{k:IntKind}{n:Nat}{f:Nat->Int} : BRep own w σ e (.arrI k n f)↔BRep own w σ e (.arr n 1 (tgI k f)):=by simp only [BRep]
theorem kU{own:Nat->Prop}{w:World}{σ:List SE}{e:SE}{n:Nat}{f:Nat->L8} : BRep own w σ e (.arrS n f)↔BRep own w σ e (.arr n 1 (tgS f)):=by simp only [BRep]
structure HRep(own:Nat->Prop)(w:World)(σ:List SE)(h:Heap):Prop where
 len:σ.length=h.length
 inj:∀ (i j:Nat) (e f:SE) (a b:Addr),σ[i]?=some e->σ[j]?=some f->e.ad=some a->f.ad=some b->i≠j->a.block≠b.block
 lt:∀ (i:Nat) (e:SE) (a:Addr),σ[i]?=some e->e.ad=some a->a.block<w.heap.size
 blk:∀ (i:Nat) (e:SE) (b:Blk),σ[i]?=some e->h[i]?=some b->BRep own w σ e b
structure Ext(own:Nat->Prop)(w:World)(own':Nat->Prop)(w':World):Prop where
 os:w'.os=w.os
 tape:w'.tape=w.tape
 output:w'.output=w.output
 size:w.heap.size<=w'.heap.size
 keep:∀ b,b<w.heap.size->¬ own b->w'.heap[b]?=w.heap[b]?
 grow:∀ b,own' b->own b\/w.heap.size<=b
theorem Ext.refl(own:Nat->Prop)(w:World):Ext own w own w:=⟨rfl,rfl,rfl,aJ _,λ_ _ _=>rfl,λ_ h=>.inl h⟩
theorem Ext.trans{o1 o2 o3:Nat->Prop}{w1 w2 w3:World}(h:Ext o1 w1 o2 w2)(k:Ext o2 w2 o3 w3):Ext o1 w1 o3 w3 where
 os:=k.os.trans h.os
 tape:=k.tape.trans h.tape
 output:=k.output.trans h.output
 size:=bP h.size k.size
 keep b hb hn:=by
  rw [k.keep b (bB hb h.size) (λh2=>by
   rcases h.grow b h2 with h3 | h3
   ·exact hn h3
   ·omega)]
  exact h.keep b hb hn
 grow b hb:=by
  rcases k.grow b hb with h2 | h2
  ·exact h.grow b h2
  ·exact .inr (bP h.size h2)
theorem yW{w:World}{a:Addr}{c:Value}(h:w.cell? a=some c):a.block<w.heap.size:=by
 unfold World.cell? at h;cases hb:w.heap[a.block]? with
 | none=>simp [hb] at h
 | some o=>exact(aQ.1 hb).1
theorem Ext.cell{o1 o2:Nat->Prop}{w1 w2:World}(h:Ext o1 w1 o2 w2){a:Addr}{c:Value}(hn:¬ o1 a.block)(hc:w1.cell? a=some c):w2.cell? a=some c:=by
 rw [<- hc];exact World.cell?_of_block (h.keep a.block (yW hc) hn)
theorem Ext.uz{o1 o2:Nat->Prop}{w1 w2:World}(h:Ext o1 w1 o2 w2){b:Nat}(hb:b<w1.heap.size)(hn:¬ o1 b):¬ o2 b:=λh2=>by
 rcases h.grow b h2 with h3 | h3
 ·exact hn h3
 ·omega
def Hold(K:List Nat)(w:World)(σ:List SE)(w':World)(Z':List SE):Prop:=
 ∀ (i:Nat) (e:SE),σ[i]?=some e->i∉K->Z'[i]?=some e/\∀ ad,e.ad=some ad->∀ cs el,w.heap[ad.block]?=some (.cells cs el (0,0)) ->
  ∃ cs' el',w'.heap[ad.block]?=some (.cells cs' el' (0,0))/\cs'.size=cs.size
theorem Hold.refl(K:List Nat)(w:World)(σ:List SE):Hold K w σ w σ:=λ_ _ h _=>⟨h,λ_ _ cs el h=>⟨cs,el,h,rfl⟩⟩
mutual
def NoH(K:List Nat):AV->Prop
 | .osl i _ _ _=>i∉K
 | .ptr i _=>i∉K
 | .eptr i _ _ _=>i∉K
 | .omap i=>i∉K
 | .agg cs=>NoHL K cs
 | .tup cs=>NoHL K cs
 | .fn _ a b=>NoHL K a/\NoHL K b
 | _=>True
def NoHL(K:List Nat):List AV->Prop
 | []=>True
 | a::l=>NoH K a/\NoHL K l
end
section
variable {K:List Nat} {o1 o2:Nat->Prop} {w1 w2:World} {E1 E2:List SE}
mutual
theorem zn(hx:Ext o1 w1 o2 w2):∀ (a:AV) (v:Value),Rep o1 w1 a [] v->Rep o2 w2 a [] v
 | .undef,_,_=>by simp [Rep]
 | .bool b,v,h=>by simpa [Rep] using h
 | .int k n,v,h=>by simpa [Rep] using h
 | .str s,v,h=>by simpa [Rep] using h
 | .nils,v,h=>by simpa [Rep] using h
 | .sl n sz get,v,h=>by
  simp only [Rep] at h ⊢;obtain⟨a,cap,hv,hle,hr⟩:=h;refine⟨a,cap,hv,hle,?_⟩;rcases hr with hr | ⟨ad,ha,hs,hr⟩
  ·exact .inl hr
  ·refine .inr ⟨ad,ha,hs,λj o hj ho=> ?_⟩;obtain⟨hn,c,hc,h1,hR⟩:=hr j o hj ho;exact⟨hx.uz (yW (a:=⟨ad.block,_,none⟩) hc) hn,c,hx.cell (a:=⟨ad.block,_,none⟩) hn hc,h1,zn hx (get j o) c hR⟩
 | .osl i sz off n,v,h=>by simp [Rep] at h
 | .ptr i off,v,h=>by simp [Rep] at h
 | .nilp,v,h=>by simpa [Rep] using h
 | .eptr i sz idx off,v,h=>by simp [Rep] at h
 | .omap i,v,h=>by simp [Rep] at h
 | .iptr m get,v,h=>by
  simp only [Rep] at h ⊢;obtain⟨ad,hv,hs,hr⟩:=h;refine⟨ad,hv,hs,λo ho=> ?_⟩;obtain⟨hn,c,hc,hR⟩:=hr o ho;exact⟨hx.uz (yW (a:=⟨ad.block,_,none⟩) hc) hn,c,hx.cell (a:=⟨ad.block,_,none⟩) hn hc,zn hx (get o) c hR⟩
 | .gptr g,v,h=>by simpa [Rep] using h
 | .agg cs,v,h=>by
  simp only [Rep] at h ⊢;obtain⟨vs,hv,hr⟩:=h;exact⟨vs,hv,wZ hx cs vs hr⟩
 | .tup cs,v,h=>by
  simp only [Rep] at h ⊢;obtain⟨vs,hv,hr⟩:=h;exact⟨vs,hv,wZ hx cs vs hr⟩
 | .fn f a b,v,h=>by
  simp only [Rep] at h ⊢;obtain⟨va,vb,hv,hr,hr2⟩:=h;exact⟨va,vb,hv,wZ hx a va hr,wZ hx b vb hr2⟩
 | .nilf,v,h=>by simpa [Rep] using h
 | .bot,v,h=>by simp [Rep] at h
 | .opt _ _ _,_,_=>by simp [Rep]
 | .mp k ag sz ks has get,v,h=>by
  simp only [Rep] at h ⊢;obtain⟨b,es,clock,hv,hn,hlim,hb,hg⟩:=h;have hlt:b<w1.heap.size:=(aQ.1 hb).1
  refine⟨b,es,clock,hv,hx.uz hlt hn,(by
   obtain⟨g,h1,h2,h3⟩:=hlim;exact⟨g,hx.uz (yW (a:=⟨g,0,none⟩) h3) h1,h2,hx.cell (a:=⟨g,0,none⟩) h1 h3⟩),by rw [hx.keep b hlt hn]; exact hb,λn=>⟨(hg n).1,λh1=> ?_⟩⟩
  obtain⟨i,x,h2,h3⟩:=(hg n).2 h1;refine⟨i,x,h2,?_⟩;cases ag with
  | true=>
   obtain⟨vs,e1,e2,e3⟩:=h3
   exact⟨vs,e1,e2,λo ho=>by
    obtain⟨c,g1,g2⟩:=e3 o ho;exact⟨c,g1,zn hx (get n o) c g2⟩⟩
  | false=>exact zn hx (get n 0) x h3
theorem wZ(hx:Ext o1 w1 o2 w2):∀ (l:List AV) (vs:List Value),RepL o1 w1 l [] vs->RepL o2 w2 l [] vs
 | [],vs,h=>by simpa [RepL] using h
 | a::l,vs,h=>by
  simp only [RepL] at h ⊢;obtain⟨v,r,hv,h1,h2⟩:=h;exact⟨v,r,hv,zn hx a v h1,wZ hx l r h2⟩
end
mutual
theorem qi(hx:Ext o1 w1 o2 w2)(hh:Hold K w1 E1 w2 E2):∀ (a:AV) (v:Value),NoH K a->Rep o1 w1 a E1 v->Rep o2 w2 a E2 v
 | .undef,_,_,_=>by simp [Rep]
 | .bool b,v,_,h=>by simpa [Rep] using h
 | .int k n,v,_,h=>by simpa [Rep] using h
 | .str s,v,_,h=>by simpa [Rep] using h
 | .nils,v,_,h=>by simpa [Rep] using h
 | .sl n sz get,v,_,h=>by
  have:=zn hx (.sl n sz get) v (by simpa only [Rep] using h);simpa only [Rep] using this
 | .osl i sz off n,v,hK,h=>by
  simp only [Rep,NoH] at h hK ⊢;obtain⟨e,he,hl,a,cap,hv,hc,hr⟩:=h;obtain⟨h1,h2⟩:=hh i e he hK;refine⟨e,h1,hl,a,cap,hv,hc,?_⟩;rcases hr with hr | ⟨ad,ha,hb,cs,el,hcs,hsz⟩
  ·exact .inl hr
  ·obtain⟨cs',el',hcs',hsz'⟩:=h2 ad ha cs el hcs;exact .inr ⟨ad,ha,hb,cs',el',hcs',by omega⟩
 | .ptr i off,v,hK,h=>by
  simp only [Rep,NoH] at h hK ⊢;obtain⟨e,ad,he,ha,hv⟩:=h;exact⟨e,ad,(hh i e he hK).1,ha,hv⟩
 | .nilp,v,_,h=>by simpa [Rep] using h
 | .eptr i sz idx off,v,hK,h=>by
  simp only [Rep,NoH] at h hK ⊢;obtain⟨e,ad,he,ha,hl,hv⟩:=h;exact⟨e,ad,(hh i e he hK).1,ha,hl,hv⟩
 | .omap i,v,hK,h=>by
  simp only [Rep,NoH] at h hK ⊢;obtain⟨e,ad,he,ha,hv⟩:=h;exact⟨e,ad,(hh i e he hK).1,ha,hv⟩
 | .iptr m get,v,_,h=>by
  have:=zn hx (.iptr m get) v (by simpa only [Rep] using h);simpa only [Rep] using this
 | .gptr g,v,_,h=>by simpa [Rep] using h
 | .agg cs,v,hK,h=>by
  simp only [Rep,NoH] at h hK ⊢;obtain⟨vs,hv,hr⟩:=h;exact⟨vs,hv,qR hx hh cs vs hK hr⟩
 | .tup cs,v,hK,h=>by
  simp only [Rep,NoH] at h hK ⊢;obtain⟨vs,hv,hr⟩:=h;exact⟨vs,hv,qR hx hh cs vs hK hr⟩
 | .fn f a b,v,hK,h=>by
  simp only [Rep,NoH] at h hK ⊢;obtain⟨va,vb,hv,hr,hr2⟩:=h;exact⟨va,vb,hv,qR hx hh a va hK.1 hr,qR hx hh b vb hK.2 hr2⟩
 | .nilf,v,_,h=>by simpa [Rep] using h
 | .bot,v,_,h=>by simp [Rep] at h
 | .opt _ _ _,_,_,_=>by simp [Rep]
 | .mp k ag sz ks has get,v,_,h=>by
  have:=zn hx (.mp k ag sz ks has get) v (by simpa only [Rep] using h);simpa only [Rep] using this
theorem qR(hx:Ext o1 w1 o2 w2)(hh:Hold K w1 E1 w2 E2):∀ (l:List AV) (vs:List Value),NoHL K l->RepL o1 w1 l E1 vs->RepL o2 w2 l E2 vs
 | [],vs,_,h=>by simpa [RepL] using h
 | a::l,vs,hK,h=>by
  simp only [RepL,NoHL] at h hK ⊢;obtain⟨v,r,hv,h1,h2⟩:=h;exact⟨v,r,hv,qi hx hh a v hK.1 h1,qR hx hh l r hK.2 h2⟩
end
theorem xq.ext(hx:Ext o1 w1 o2 w2){ag:Bool}{sh:List SK}{get:List Sc->AV} : ∀ {es:List MapEntry} {l:List (List Sc)},xq o1 w1 ag sh get es l->xq o2 w2 ag sh get es l
 | [],[],_=>trivial
 | e::es,k::ks,h=>⟨h.1,zn hx _ _ h.2.1,zn hx _ _ h.2.2.1,xq.ext hx h.2.2.2⟩
 | [],_::_,h=>h.elim
 | _::_,[],h=>h.elim
theorem vC.ext(h:vC o1 w1)(hx:Ext o1 w1 o2 w2):vC o2 w2:=⟨λg a hz=>by
 obtain⟨h1,c,h2,h3,h4⟩:=h.at_ g a hz;exact⟨hx.uz (yW (a:=⟨g,0,none⟩) h2) h1,c,hx.cell (a:=⟨g,0,none⟩) h1 h2,zn hx a _ h3,λb hb=>bB (h4 b hb) hx.size⟩⟩
theorem vC.own(h:vC o1 w1)(hs:∀ b,o2 b->o1 b):vC o2 w1:=h.ext ⟨rfl,rfl,rfl,aJ _,λ_ _ _=>rfl,λb hb=>.inl (hs b hb)⟩
end
end Go.Sx
end
section
namespace Go.Sx
variable [Stat]
theorem Zf{α:Type}{l:List α}{o n j:Nat}{v:α}(h:((l.drop o).take n)[j]?=some v):l[o+j]?=some v/\j<n:=by
 simp only [bR,List.getElem?_drop] at h;split at h
 ·rename_i hj; exact⟨h,hj⟩
 ·cases h
theorem KC{vs:List Value}(o n:Nat):vs.toArray.extract o (o+n)=((vs.drop o).take n).toArray:=by
 apply Array.ext';simp [List.extract_eq_drop_take',<- List.drop_take]
namespace Tree
theorem zo{α β:Type}{f:α->Tree β}{Q:β->Prop} : ∀ {t:Tree α},(t.bind f).holds Q↔t.holds λa=>(f a).holds Q
 | .leaf a=>Iff.rfl
 | .ite b t e=>by simp only [bind,holds,zo (t:=t),zo (t:=e)]
 | .side p t=>by simp only [bind,holds,zo (t:=t)]
 | .ex p k=>by simp only [bind,holds]; exact exists_congr λn=>and_congr Iff.rfl zo
 | .all p k=>by simp only [bind,holds]; exact and_congr Iff.rfl (forall_congr' λn=>imp_congr Iff.rfl zo)
 | .fail=>Iff.rfl
theorem zU{α:Type}{Q Q':α->Prop}(h:∀ a,Q a->Q' a):∀ {t:Tree α},t.holds Q->t.holds Q'
 | .leaf a,hq=>h a hq
 | .ite b t e,hq=>⟨λhb=>zU h (hq.1 hb),λhb=>zU h (hq.2 hb)⟩
 | .side p t,hq=>⟨hq.1,λhp=>zU h (hq.2 hp)⟩
 | .ex p k,hq=>by obtain⟨n,h1,h2⟩:=hq; exact⟨n,h1,zU h h2⟩
 | .all p k,hq=>⟨hq.1,λn hn=>zU h (hq.2 n hn)⟩
 | .fail,hq=>hq
theorem vg{α:Type} : ∀ {t:Tree α} {Q:α->Prop},t.holds Q->∃ a,Q a
 | .leaf a,Q,hq=>⟨a,hq⟩
 | .ite true t e,Q,hq=>vg (hq.1 rfl)
 | .ite false t e,Q,hq=>vg (hq.2 rfl)
 | .side p t,Q,hq=>vg (hq.2 hq.1)
 | .ex p k,Q,hq=>by
  obtain⟨n,_,h⟩:=hq;exact vg h
 | .all p k,Q,hq=>by
  obtain⟨n,hn⟩:=hq.1;exact vg (hq.2 n hn)
 | .fail,Q,hq=>hq.elim
end Tree
section
variable {own:Nat->Prop} {w:World} {σ:List SE}
theorem zt:∀ {l:List AV} {vs:List Value},RepL own w l σ vs↔vs.length=l.length/\∀ (i:Nat) a v,l[i]?=some a->vs[i]?=some v->Rep own w a σ v
 | [],vs=>by
  simp only [RepL];constructor
  ·rintro rfl; simp
  ·rintro⟨h,_⟩; simpa using h
 | a::l,vs=>by
  simp only [RepL];constructor
  ·rintro⟨v,r,rfl,h1,h2⟩;obtain⟨h3,h4⟩:=zt.1 h2;refine⟨by simp [h3],λi x y hx hy=> ?_⟩;cases i with
   | zero=>simp at hx hy; subst hx; subst hy; exact h1
   | succ i=>simp at hx hy; exact h4 i x y hx hy
  ·rintro⟨h1,h2⟩
   match vs,h1 with
   | v::r,h1=>
    refine⟨v,r,rfl,h2 0 a v (by simp) (by simp),zt.2 ⟨by simpa using h1,λi x y hx hy=>h2 (i+1) x y (by simpa using hx) (by simpa using hy)⟩⟩
theorem RepL.length{l:List AV}{vs:List Value}(h:RepL own w l σ vs):vs.length=l.length:=(zt.1 h).1
theorem RepL.get{l:List AV}{vs:List Value}(h:RepL own w l σ vs){i:Nat}{a:AV}(ha:l[i]?=some a):∃ v,vs[i]?=some v/\Rep own w a σ v:=by
 have hl:=h.length;have hi:i<vs.length:=by rw [hl]; exact(aG.1 ha).1
 exact⟨vs[i],by simp [hi],(zt.1 h).2 i a _ ha (by simp [hi])⟩
theorem RepL.cut{l:List AV}{vs:List Value}(h:RepL own w l σ vs)(o n:Nat):RepL own w ((l.drop o).take n) σ ((vs.drop o).take n):=by
 have hl:=h.length;refine zt.2 ⟨by simp [hl],λi a v ha hv=> ?_⟩;simp only [bR,List.getElem?_drop] at ha hv;split at ha
 ·simp_all only [ite_true]; exact(zt.1 h).2 _ a v ha hv
 ·cases ha
theorem RepL.app{l l':List AV}{vs vs':List Value}(h:RepL own w l σ vs)(h':RepL own w l' σ vs'):RepL own w (l++l') σ (vs++vs'):=by
 have hl:=h.length;have hl':=h'.length;refine zt.2 ⟨by simp [hl,hl'],λi a v ha hv=> ?_⟩;rw [bT] at ha hv;split at ha
 ·rw [aP (by omega)] at hv; exact(zt.1 h).2 i a v ha hv
 ·rw [aO (by omega),hl] at hv; exact(zt.1 h').2 _ a v ha hv
theorem RepL.drp{l:List AV}{vs:List Value}(h:RepL own w l σ vs)(o:Nat):RepL own w (l.drop o) σ (vs.drop o):=by
 have:=h.cut o (l.length - o)
 rwa [bF (by simp),bF (by simp [h.length])] at this
theorem RepL.tak{l:List AV}{vs:List Value}(h:RepL own w l σ vs)(n:Nat):RepL own w (l.take n) σ (vs.take n):=by
 have:=h.cut 0 n;simpa using this
mutual
theorem j6:∀ a:AV,NoH [] a
 | .osl .. =>by simp [NoH]
 | .ptr .. =>by simp [NoH]
 | .eptr .. =>by simp [NoH]
 | .agg cs=>by simp only [NoH]; exact wH cs
 | .tup cs=>by simp only [NoH]; exact wH cs
 | .fn _ a b=>by simp only [NoH]; exact⟨wH a,wH b⟩
 | .undef=>by simp [NoH]
 | .bool _=>by simp [NoH]
 | .int _ _=>by simp [NoH]
 | .str _=>by simp [NoH]
 | .nils=>by simp [NoH]
 | .sl .. =>by simp [NoH]
 | .nilp=>by simp [NoH]
 | .iptr .. =>by simp [NoH]
 | .gptr _=>by simp [NoH]
 | .nilf=>by simp [NoH]
 | .bot=>by simp [NoH]
 | .opt .. =>by simp [NoH]
 | .mp .. =>by simp [NoH]
 | .omap _=>by simp [NoH]
theorem wH:∀ l:List AV,NoHL [] l
 | []=>by simp [NoHL]
 | a::l=>by simp only [NoHL]; exact⟨j6 a,wH l⟩
end
theorem Rep.any{a:AV}{v:Value}(h:Rep own w a [] v)(σ:List SE):Rep own w a σ v:=
 qi (K:=[]) (Ext.refl own w) (λi e he=>by simp at he) a v (j6 a) h
variable {P:Program}
theorem x4{t:TypeId}{a:Bool}(h:jA P t=some a):(isAgg t).run P w = .ok a w:=by
 unfold jA at h;cases hu:P.underlying t with
 | none=>simp [hu] at h
 | some d=>
  simp only [isAgg,Sem.run_bind,run_underlying hu,Result.andThen_ok];cases d<;>simp_all
theorem z3{t:TypeId}{n:Nat}(h:qj P t=some n):(sizeOf t).run P w = .ok n w:=by
 unfold qj at h;cases hi:P.info? t with
 | none=>simp [hi] at h
 | some i=>
  simp [hi] at h;rw [run_sizeOf w hi,Program.cellsOf,hi];simp [h]
theorem yk{b:Bool}{cs:List AV}{vs:List Value}{Q:AV->Prop}(hr:RepL own w cs σ vs)(h:(wA b cs).holds Q) :
  ∃ r v,Q r/\Rep own w r σ v/\(b=true->v = .agg vs.toArray)/\(b=false->vs=[v]):=by
 unfold wA at h;cases b with
 | true=>
  simp only [if_true,Tree.holds] at h;exact⟨_,.agg vs.toArray,h,by simp only [Rep]; exact⟨vs,rfl,hr⟩,λ_=>rfl,(λh=>by cases h)⟩
 | false=>
  simp only [Bool.false_eq_true,if_false] at h
  match cs,h with
  | [c],h=>
   simp only [RepL] at hr;obtain⟨v,r,rfl,h1,rfl⟩:=hr;exact⟨c,v,h,h1,(λh=>by cases h),λ_=>rfl⟩
  | [],h=>exact h.elim
  | _::_::_,h=>exact h.elim
theorem wF{t:TypeId}{b:Bool}{n:Nat}{bl off:Nat}{cs:List AV}{vs:List Value}{Q:AV->Prop}(ht:jA P t=some b)(hn:qj P t=some n)
  (hl:vs.length=n) (hc:∀ j v,vs[j]?=some v->w.cell? ⟨bl,off+j,none⟩=some v) (hr:RepL own w cs σ vs) (h:(wA b cs).holds Q) :
  ∃ r v,(loadVar t ⟨bl,off,none⟩).run P w = .ok v w/\Q r/\Rep own w r σ v:=by
 obtain⟨r,v,hq,hR,h1,h2⟩:=yk hr h;refine⟨r,v,?_,hq,hR⟩;simp only [loadVar,Sem.run_bind,x4 ht,Result.andThen_ok];have hadd:∀ j,(⟨bl,off,none⟩:Addr).add j=⟨bl,off+j,none⟩:=λj=>by unfold Addr.add; split<;>simp_all
 cases b with
 | true=>
  have hld:=run_loadCells_list (P:=P) w ⟨bl,off,none⟩ vs (λj v hv=>by rw [hadd]; exact hc j v hv);rw [hl] at hld;simp only [if_true,Sem.run_bind,z3 hn,Result.andThen_ok,hld,Sem.run_pure,h1 rfl]
 | false=>
  have:=h2 rfl;subst this;have:=hc 0 v (by simp);simp only [Nat.add_zero] at this;simp [this]
theorem kx{b:Nat}{cs:Array Value}{el:TypeId}{fr:Nat×Nat}{o:Nat}{v:Value}(h:w.heap[b]?=some (.cells cs el fr))(hv:cs[o]?=some v):w.cell? ⟨b,o,none⟩=some v:=by
 simp [World.cell?,h,hv]
theorem Ql{t:TypeId}{e:SE}{ad:Addr}{n' sz idx off n:Nat}{b:Bool}{g:Nat->Nat->AV}{Q:AV->Prop}(hblk:BRep own w σ e (.arr n' sz g))(had:e.ad=some ad)(hidx:idx<e.n)(ht:jA P t=some b)(hn:qj P t=some n)(hle:off+n<=sz)
  (hq:(wA b ((List.range n).map λo=>g idx (off+o))).holds Q):∃ r v,(Instr.loadAt t (.pointer (some ⟨ad.block,ad.off+(idx*sz+off),none⟩))).run P w = .ok v w/\Q r/\Rep own w r σ v:=by
 simp only [BRep] at hblk;obtain⟨hen,hz | ⟨ad',cs,el,had',hcs,hsz,hr⟩⟩:=hblk
 ·omega
 rw [had] at had';cases had'
 have hex:∀ o,o<n->∃ c,cs[ad.off+(idx*sz+off)+o]?=some c/\Rep own w (g idx (off+o)) [] c:=λo ho=>by
  obtain⟨c,h1,_,h2⟩:=hr idx (off+o) (by omega) (by omega);exact⟨c,by rw [<- h1]; congr 1; omega,h2⟩
 obtain⟨f,hf⟩:=Classical.axiomOfChoice (r:=λ(o:Nat) c=>o<n->cs[ad.off+(idx*sz+off)+o]?=some c/\Rep own w (g idx (off+o)) [] c)
  (λo=>by
   by_cases ho:o<n
   ·obtain⟨c,hc⟩:=hex o ho; exact⟨c,λ_=>hc⟩
   ·exact⟨undef,λh=>absurd h ho⟩)
 obtain⟨r,v,h1,h2,h3⟩:=wF (P:=P) (σ:=σ) (bl:=ad.block) (off:=ad.off+(idx*sz+off)) ht hn (vs:=(List.range n).map f) (by simp)
  (λj v hv=>by
   simp only [aN,List.getElem?_range] at hv;by_cases hj:j<n
   ·simp [hj] at hv; subst hv; exact kx hcs (hf j hj).1
   ·simp [hj] at hv)
  (cs:=(List.range n).map λo=>g idx (off+o)) (zt.2 ⟨by simp,λj a v ha hv=>by
   by_cases hj:j<n
   ·simp [hj] at ha hv; subst ha; subst hv; exact(hf j hj).2.any σ
   ·simp [hj] at ha⟩) hq
 refine⟨r,v,?_,h2,h3⟩;simp only [Instr.loadAt,Instr.sureAddr,Sem.run_bind,Sem.run_pure,Result.andThen_ok];exact h1
theorem Qb{h:Heap}(hh:HRep own w σ h){t:TypeId}{a:AV}{va:Value}{Q:AV->Prop}(ha:Rep own w a σ va)(hq:(uQ P h t a).holds Q) :
  ∃ r v,(Instr.loadAt t va).run P w = .ok v w/\Q r/\Rep own w r σ v:=by
 cases a with
 | ptr i off=>
  simp only [Rep] at ha;obtain⟨e,ad,he,had,rfl⟩:=ha;simp only [uQ] at hq;split at hq
  ·rename_i cells b n hb ht hn;split at hq
   ·rename_i hle;obtain⟨ad',vs,el,had',h0,hcs,hr⟩:=hh.blk i e _ he hb;rw [had] at had';cases had';have hlen:=hr.length
    obtain⟨r,v,h1,h2,h3⟩:=wF (P:=P) (bl:=ad.block) (off:=off) ht hn (vs:=(vs.drop off).take n) (by simp; omega)
     (λj v hv=>kx hcs (by simpa using (Zf hv).1)) (hr.cut off n) hq
    refine⟨r,v,?_,h2,h3⟩;simp only [Instr.loadAt,Instr.sureAddr,Sem.run_bind,Sem.run_pure,Result.andThen_ok,h0,Nat.zero_add];exact h1
   ·exact hq.elim
  ·exact hq.elim
 | eptr i sz idx off=>
  simp only [Rep] at ha;obtain⟨e,ad,he,had,hidx,rfl⟩:=ha;simp only [uQ] at hq;split at hq
  ·rename_i n' sz' g b n hb ht hn;split at hq
   ·rename_i hle;obtain⟨rfl,hle⟩:=hle;exact Ql (hh.blk i e _ he hb) had hidx ht hn hle hq
   ·exact hq.elim
  ·rename_i k n' f hb ht hn;split at hq
   ·rename_i hle;obtain⟨rfl,rfl⟩:=hle;exact Ql (b:=false) (n:=1) (g:=tgI k f) (kV.1 (hh.blk i e _ he hb)) had hidx ht hn (aJ _) hq
   ·exact hq.elim
  ·rename_i n' f hb ht hn;split at hq
   ·rename_i hle;obtain⟨rfl,rfl⟩:=hle;exact Ql (b:=false) (n:=1) (g:=tgS f) (kU.1 (hh.blk i e _ he hb)) had hidx ht hn (aJ _) hq
   ·exact hq.elim
  ·rename_i cells b n hb ht hn;split at hq
   ·rename_i hle;obtain⟨ad',vs,el,had',h0,hcs,hr⟩:=hh.blk i e _ he hb;rw [had] at had';cases had';have hlen:=hr.length
    obtain⟨r,v,h1,h2,h3⟩:=wF (P:=P) (bl:=ad.block) (off:=idx*sz+off) ht hn (vs:=(vs.drop (idx*sz+off)).take n) (by simp; omega)
     (λj v hv=>kx hcs (by simpa using (Zf hv).1)) (hr.cut (idx*sz+off) n) hq
    refine⟨r,v,?_,h2,h3⟩;simp only [Instr.loadAt,Instr.sureAddr,Sem.run_bind,Sem.run_pure,Result.andThen_ok,h0,Nat.zero_add];exact h1
   ·exact hq.elim
  ·exact hq.elim
 | iptr m g=>
  simp only [Rep] at ha;obtain⟨ad,rfl,hs,hr⟩:=ha;simp only [uQ] at hq;split at hq
  ·rename_i b n ht hn;split at hq
   ·rename_i hle
    obtain⟨f,hf⟩:=Classical.axiomOfChoice (r:=λ(o:Nat) c=>o<n->w.cell? ⟨ad.block,ad.off+o,none⟩=some c/\Rep own w (g o) [] c)
     (λo=>by
      by_cases ho:o<n
      ·obtain⟨_,c,hc⟩:=hr o (by omega); exact⟨c,λ_=>hc⟩
      ·exact⟨undef,λh=>absurd h ho⟩)
    obtain⟨r,v,h1,h2,h3⟩:=wF (P:=P) (σ:=σ) (bl:=ad.block) (off:=ad.off) ht hn (vs:=(List.range n).map f) (by simp)
     (λj v hv=>by
      by_cases hj:j<n
      ·simp [hj] at hv; subst hv; exact(hf j hj).1
      ·simp [hj] at hv)
     (cs:=(List.range n).map g) (zt.2 ⟨by simp,λj a v ha hv=>by
      by_cases hj:j<n
      ·simp [hj] at ha hv; subst ha; subst hv; exact(hf j hj).2.any σ
      ·simp [hj] at ha⟩) hq
    refine⟨r,v,?_,h2,h3⟩;have:ad=⟨ad.block,ad.off,none⟩:=by cases ad; simp_all
    simp only [Instr.loadAt,Instr.sureAddr,Sem.run_bind,Sem.run_pure,Result.andThen_ok];rw [this];exact h1
   ·exact hq.elim
  ·exact hq.elim
 | _=>exact hq.elim
end
end Go.Sx
end
section
namespace Go.Sx
variable [Stat]
theorem wN{k:IntKind}{n:Int}(h:inR k n):k.wrap n=n:=by
 unfold inR at h;cases k<;>simp only [lo,hi] at h<;>simp [IntKind.wrap,IntKind.bits,IntKind.signed]<;>omega
section
variable {own:Nat->Prop} {w:World} {σ:List SE} {P:Program}
theorem add_plain{a:Addr}(h:a.spot=none)(n:Nat):a.add n=⟨a.block,a.off+n,none⟩:=by
 cases a; simp at h; subst h; unfold Addr.add; split<;>simp_all
theorem KN{d:Nat}{a:AV}{va:Value}{Q:AV->Prop}(ha:Rep own w a σ va)(hq:(YW d a).holds Q) :
  ∃ ad r,va = .pointer (some ad)/\ad.spot=none/\Q r/\Rep own w r σ (.pointer (some (ad.add d))):=by
 cases a with
 | ptr i off=>
  simp only [Rep] at ha;obtain⟨e,ad,he,had,rfl⟩:=ha;refine⟨_,_,rfl,rfl,hq,?_⟩;simp only [Rep];exact⟨e,ad,he,had,by rw [add_plain rfl]; simp [Nat.add_assoc]⟩
 | eptr i sz idx off=>
  simp only [Rep] at ha;obtain⟨e,ad,he,had,hl,rfl⟩:=ha;refine⟨_,_,rfl,rfl,hq,?_⟩;simp only [Rep];exact⟨e,ad,he,had,hl,by rw [add_plain rfl]; simp [Nat.add_assoc]⟩
 | iptr m g=>
  simp only [Rep] at ha;obtain⟨ad,rfl,hs,hr⟩:=ha;simp only [YW] at hq;split at hq
  ·rename_i hle;refine⟨_,_,rfl,hs,hq,?_⟩;simp only [Rep];refine⟨_,rfl,by rw [add_plain hs],λo ho=> ?_⟩;obtain⟨h1,c,h2,h3⟩:=hr (d+o) (by omega);rw [add_plain hs];exact⟨h1,c,by simpa [Nat.add_assoc] using h2,by simpa [atG] using h3⟩
  ·exact hq.elim
 | _=>exact hq.elim
theorem xK{s:TypeId}{f o ft n:Nat}(h:xh P s f=some (o,ft,n)) :
  ∃ fs fld,P.underlying s=some (.struct fs)/\fs[f]?=some fld/\fld.offset=o/\fld.type=ft/\qj P ft=some n/\n≠0:=by
 unfold xh at h;split at h
 ·rename_i fs hu;split at h
  ·rename_i fld hf;split at h
   ·rename_i i hi;split at h
    ·cases h
    ·rename_i hz;simp only [aE,bE] at h;obtain⟨rfl,rfl,rfl⟩:=h;exact⟨fs,fld,hu,hf,rfl,rfl,by simp [qj,hi],hz⟩
   ·cases h
  ·cases h
 ·cases h
theorem Zd{t f:Nat}{o ft n:Nat}{a:AV}{va:Value}{Q:AV->Prop}(hf:xh P t f=some (o,ft,n))(ha:Rep own w a σ va)(hq:(YW o a).holds Q) :
  ∃ r v,(Instr.fieldAt t va f).run P w = .ok v w/\Q r/\Rep own w r σ v:=by
 obtain⟨fs,fld,hu,hfl,rfl,rfl,hs,hz⟩:=xK hf;obtain⟨ad,r,rfl,hsp,hQ,hR⟩:=KN ha hq;refine⟨r,_,?_,hQ,hR⟩;simp only [Instr.fieldAt,Sem.run_bind,run_underlying hu,Result.andThen_ok,hfl,Instr.sureAddr,Sem.run_pure,fieldPlace,z3 hs,Sem.run_ite,aO hz]
theorem Vo{t f:Nat}{a:AV}{va:Value}{Q:AV->Prop}(ha:Rep own w a σ va)(hq:(Xv P t f a).holds Q) :
  ∃ r v,(Instr.field t va f).run P w = .ok v w/\Q r/\Rep own w r σ v:=by
 cases a with
 | agg cs=>
  simp only [Rep] at ha;obtain⟨vs,rfl,hr⟩:=ha;simp only [Xv] at hq;split at hq
  ·rename_i o ft n hf;split at hq
   ·rename_i b hb;split at hq
    ·rename_i hle;obtain⟨fs,fld,hu,hfl,rfl,rfl,hs,hz⟩:=xK hf;obtain⟨r,v,hQ,hR,h1,h2⟩:=yk (hr.cut fld.offset n) hq;refine⟨r,v,?_,hQ,hR⟩;simp only [Instr.field,Sem.run_bind,run_underlying hu,Result.andThen_ok,hfl,asAgg,Sem.run_pure,part,x4 hb];cases b with
     | true=>
      simp only [if_true,Sem.run_bind,z3 hs,Result.andThen_ok,Sem.run_pure,h1 rfl];congr 2;apply Array.ext';simp [List.extract_eq_drop_take',<- List.drop_take]
     | false=>
      have h3:=h2 rfl;have h4:((vs.drop fld.offset).take n)[0]?=some v:=by rw [h3]; rfl
      have h5:=(Zf h4).1;simp only [Nat.add_zero] at h5;simp [h5]
    ·exact hq.elim
   ·exact hq.elim
  ·exact hq.elim
 | _=>exact hq.elim
theorem QU{i:Nat}{a:AV}{va:Value}{Q:AV->Prop}(ha:Rep own w a σ va)(hq:(Qn i a).holds Q) :
  ∃ r v,(Instr.extract va i).run P w = .ok v w/\Q r/\Rep own w r σ v:=by
 cases a with
 | tup cs=>
  simp only [Rep] at ha;obtain⟨vs,rfl,hr⟩:=ha;simp only [Qn] at hq;split at hq
  ·rename_i c hc;obtain⟨v,hv,hR⟩:=hr.get hc;exact⟨c,v,by simp [Instr.extract,hv],hq,hR⟩
  ·exact hq.elim
 | _=>exact hq.elim
theorem zl2(k:IntKind):hi k<2^k.bits:=by cases k<;>decide
theorem UJ{b:Nat}{x y:Int}(hx:0<=x)(hx2:x<2^b)(hy:0<=y)(hy2:y<2^b):(BitVec.ofInt b x &&& BitVec.ofInt b y).toNat=x.toNat &&& y.toNat:=by
 have e:((2^b:Nat):Int)=2^b:=by simp
 rw [BitVec.toNat_and,BitVec.toNat_ofInt,BitVec.toNat_ofInt,Int.emod_eq_of_lt hx (by rw [e]; exact hx2),Int.emod_eq_of_lt hy (by rw [e]; exact hy2)]
theorem xg{op:BinOp}{k k':IntKind}{x y:Int}{t:TypeId}{Q:AV->Prop}(hq:(ZM op k x y).holds Q) :
  ∃ r v,(binOp op t (.int k x) (.int k' y)).run P w = .ok v w/\Q r/\Rep own w r σ v:=by
 cases op<;>simp only [ZM,Tree.holds] at hq
 case shl=>
  obtain⟨h1,h2⟩:=hq;have hm:min y.toNat k.bits=y.toNat:=Nat.min_eq_left (by omega);exact⟨_,.int k (x*2^y.toNat),by simp only [binOp,Op.shift,aO (show ¬ y<0 by omega),hm,wN h1.2.2,Sem.run_pure],h2 h1,by simp [Rep]⟩
 case shr=>
  obtain⟨h1,h2⟩:=hq;have hm:min y.toNat k.bits=y.toNat:=Nat.min_eq_left (by omega);exact⟨_,.int k (x.fdiv (2^y.toNat)),by simp only [binOp,Op.shift,aO (show ¬ y<0 by omega),hm,Sem.run_pure],h2 h1,by simp [Rep]⟩
theorem WH{op:BinOp}{k:IntKind}{x y:Int}{t:TypeId}{Q:AV->Prop}(hq:(Xz op k x y).holds Q) :
  ∃ r v,(binOp op t (.int k x) (.int k y)).run P w = .ok v w/\Q r/\Rep own w r σ v:=by
 cases op<;>simp only [Xz,Tree.holds] at hq
 case shl=>exact xg hq
 case shr=>exact xg hq
 case and=>
  obtain⟨⟨⟨h1,h2⟩,h3,h4⟩,h5⟩:=hq;have hk:=zl2 k;have e:=UJ (b:=k.bits) h1 (by omega) h3 (by omega);have hle:x.toNat &&& y.toNat<=x.toNat:=Nat.and_le_left;have hlo:lo k<=0:=by cases k<;>decide
  refine⟨_,.int k ((x.toNat &&& y.toNat:Nat):Int),?_,h5 ⟨⟨h1,h2⟩,h3,h4⟩,by simp [Rep]⟩;simp only [binOp,ne_eq,not_true,if_false,Op.intBits,Sem.run_pure,e];rw [wN ⟨by omega,by omega⟩]
 case add=>obtain⟨h1,h2⟩:=hq; exact⟨_,.int k (x+y),by simp [binOp,Op.intArith,wN h1],h2 h1,by simp [Rep]⟩
 case sub=>obtain⟨h1,h2⟩:=hq; exact⟨_,.int k (x - y),by simp [binOp,Op.intArith,wN h1],h2 h1,by simp [Rep]⟩
 case mul=>obtain⟨h1,h2⟩:=hq; exact⟨_,.int k (x*y),by simp [binOp,Op.intArith,wN h1],h2 h1,by simp [Rep]⟩
 case quo=>obtain⟨h1,h2⟩:=hq; exact⟨_,.int k (x.tdiv y),by simp [binOp,Op.intDiv,h1.1,wN h1.2],h2 h1,by simp [Rep]⟩
 case rem=>obtain⟨h1,h2⟩:=hq; exact⟨_,.int k (x.tmod y),by simp [binOp,Op.intDiv,h1],h2 h1,by simp [Rep]⟩
 case eql=>exact⟨_,_,by simp [binOp,Op.intCmp]; rfl,hq,by simp only [Rep]; congr 1⟩
 case neq=>exact⟨_,_,by simp [binOp,Op.intCmp]; rfl,hq,by simp only [Rep]; congr 1⟩
 case lss=>exact⟨_,_,by simp [binOp,Op.intCmp]; rfl,hq,by simp [Rep]⟩
 case leq=>exact⟨_,_,by simp [binOp,Op.intCmp]; rfl,hq,by simp [Rep]⟩
 case gtr=>exact⟨_,_,by simp [binOp,Op.intCmp]; rfl,hq,by simp [Rep]⟩
 case geq=>exact⟨_,_,by simp [binOp,Op.intCmp]; rfl,hq,by simp [Rep]⟩
theorem Wh{op:BinOp}{x y:L8}{t:TypeId}{Q:AV->Prop}(hq:(X7 op x y).holds Q) :
  ∃ r v,(binOp op t (.string ⟨x.toArray⟩) (.string ⟨y.toArray⟩)).run P w = .ok v w/\Q r/\Rep own w r σ v:=by
 have he:(x == y)=decide (x=y):=by by_cases h:x=y<;>simp [h]
 cases op<;>simp only [X7,Tree.holds] at hq
 case add=>
  obtain⟨h1,h2⟩:=hq;refine⟨_,.string ⟨(x++y).toArray⟩,?_,h2 h1,by simp [Rep]⟩
  have hs:¬ ((((⟨x.toArray⟩:ByteArray).size+(⟨y.toArray⟩:ByteArray).size:Nat):Int)>IntKind.i64.max):=by
   have e1:(⟨x.toArray⟩:ByteArray).size=x.length:=by simp [ByteArray.size]
   have e2:(⟨y.toArray⟩:ByteArray).size=y.length:=by simp [ByteArray.size]
   rw [e1,e2]; simp [IntKind.max,IntKind.signed,IntKind.bits]; omega
  simp only [binOp,Op.stringOp,aO hs,Sem.run_pure];congr 2
 case eql=>exact⟨_,_,by simp [binOp,Op.stringOp]; rfl,hq,by simp only [Rep,he]⟩
 case neq=>exact⟨_,_,by simp [binOp,Op.stringOp]; rfl,hq,by simp only [Rep,he]⟩
 case lss=>exact⟨_,_,by simp [binOp,Op.stringOp]; rfl,hq,by simp [Rep]⟩
 case leq=>exact⟨_,_,by simp [binOp,Op.stringOp]; rfl,hq,by simp only [Rep,he]⟩
 case gtr=>exact⟨_,.bool (!(Op.bytesLess x y||decide (x=y))),by simp only [binOp,Op.stringOp,Sem.run_pure,ByteArray.toList_mk,he],hq,by simp only [Rep]⟩
 case geq=>exact⟨_,_,by simp [binOp,Op.stringOp]; rfl,hq,by simp [Rep]⟩
theorem run_equalIn_bool{t:TypeId}(hu:P.underlying t=some .bool)(d:Nat)(a b:Bool):(Op.equalIn (d+1) t (.bool a) (.bool b)).run P w = .ok (a == b) w:=by
 simp [Op.equalIn,run_underlying hu]
theorem run_equal_bool{t:TypeId}(hu:P.underlying t=some .bool)(a b:Bool):(Op.equal t (.bool a) (.bool b)).run P w = .ok (a == b) w:=run_equalIn_bool hu 9999 a b
theorem jv{ft off:Nat}{vs:Array Value}{v:Value}(h:jA P ft=some false)(hv:vs[off]?=some v):(part ft vs off).run P w = .ok v w:=by
 simp only [part,Sem.run_bind,x4 h,Result.andThen_ok,Bool.false_eq_true,if_false,hv,Sem.run_pure]
theorem jl{as bs:List AV}{va vb:Array Value}(d:Nat)(ha:RepL own w as σ va.toList)(hb:RepL own w bs σ vb.toList):∀ {fs:List Field} {r:Bool},jG P as bs fs=some r->(Op.eqFields (d+1) va vb fs).run P w = .ok r w
 | [],r,h=>by
  simp only [jG,aE] at h;subst h; simp [Op.eqFields]
 | f::fs,r,h=>by
  simp only [jG] at h;simp only [Op.eqFields];split at h
  ·rename_i hn;rw [aP hn];split at h
   ·rename_i k x k1 k2 y hg hu h1 h2;split at h
    ·rename_i hk;subst hk;split at h
     ·rename_i r' hr;simp only [aE] at h;obtain⟨u,hu1,hu2⟩:=ha.get h1;obtain⟨u',hu3,hu4⟩:=hb.get h2;simp only [Rep] at hu2 hu4;subst hu2; subst hu4;simp only [Sem.run_bind,jv hg (by simpa using hu1),jv hg (by simpa using hu3),Result.andThen_ok,run_equalIn_int _ _ _ _ _ _ _ hu];have ih:=jl d ha hb hr;subst h;by_cases hxy:k1=y
      ·subst hxy; simp [ih]
      ·simp [hxy]
     ·cases h
    ·cases h
   ·rename_i x y hg hu h1 h2;split at h
    ·rename_i r' hr;simp only [aE] at h;obtain⟨u,hu1,hu2⟩:=ha.get h1;obtain⟨u',hu3,hu4⟩:=hb.get h2;simp only [Rep] at hu2 hu4;subst hu2; subst hu4;simp only [Sem.run_bind,jv hg (by simpa using hu1),jv hg (by simpa using hu3),Result.andThen_ok,run_equalIn_string _ _ _ _ _ hu];have ih:=jl d ha hb hr;subst h;by_cases hxy:x=y
     ·subst hxy; simp [ih]
     ·simp [hxy]
    ·cases h
   ·rename_i x y hg hu h1 h2;split at h
    ·rename_i r' hr;simp only [aE] at h;obtain⟨u,hu1,hu2⟩:=ha.get h1;obtain⟨u',hu3,hu4⟩:=hb.get h2;simp only [Rep] at hu2 hu4;subst hu2; subst hu4;simp only [Sem.run_bind,jv hg (by simpa using hu1),jv hg (by simpa using hu3),Result.andThen_ok,run_equalIn_bool hu];have ih:=jl d ha hb hr;subst h;cases x<;>cases y<;>simp [ih]
    ·cases h
   ·cases h
  ·rename_i hn;rw [aO hn];exact jl d ha hb h
theorem yS{op:BinOp}{t:TypeId}{x y:Operand}{n cap:Nat}{p:Option Addr}{Q:AV->Prop}(hq:(Zo P op t n).holds Q)(hp:0<n->p.isNone=false) :
  ∃ r v,(do eqGuard op t x y (.slice p n cap) (.slice none 0 0); binOp op t (.slice p n cap) (.slice none 0 0):Sem Value).run P w = .ok v w/\Q r/\Rep own w r σ v:=by
 simp only [Zo] at hq;split at hq
 ·rename_i e hu;have hrun:∀ d,(Op.equalIn (d+1) t (.slice p n cap) (.slice none 0 0)).run P w = .ok p.isNone w:=λd=>by cases p<;>simp [Op.equalIn,run_underlying hu]
  split at hq
  ·refine⟨_,.bool p.isNone,?_,hq.2 p.isNone hp,by simp [Rep]⟩;rw [Sem.run_bind];simp only [eqGuard,binOp];simp [Op.equal,Op.maxDepth,hrun 9999]
  ·refine⟨_,.bool (!p.isNone),?_,hq.2 (!p.isNone) (λh=>by rw [hp h]; rfl),by simp [Rep]⟩;rw [Sem.run_bind];simp only [eqGuard,binOp];simp [Op.equal,Op.maxDepth,hrun 9999]
  ·exact hq.elim
 ·exact hq.elim
theorem yP{op:BinOp}{t:TypeId}{x y:Operand}{p:Option Addr}{Q:AV->Prop}(hq:(Zp P op t p.isNone).holds Q) :
  ∃ r v,(do eqGuard op t x y (.pointer p) (.pointer none); binOp op t (.pointer p) (.pointer none):Sem Value).run P w = .ok v w/\Q r/\Rep own w r σ v:=by
 simp only [Zp] at hq;split at hq
 ·rename_i e hu;have hrun:∀ d,(Op.equalIn (d+1) t (.pointer p) (.pointer none)).run P w = .ok p.isNone w:=λd=>by cases p<;>simp [Op.equalIn,run_underlying hu]
  split at hq
  ·refine⟨_,.bool p.isNone,?_,hq,by simp [Rep]⟩;rw [Sem.run_bind];simp only [eqGuard,binOp];simp [Op.equal,Op.maxDepth,hrun 9999]
  ·refine⟨_,.bool (!p.isNone),?_,hq,by simp [Rep]⟩;rw [Sem.run_bind];simp only [eqGuard,binOp];simp [Op.equal,Op.maxDepth,hrun 9999]
  ·exact hq.elim
 ·exact hq.elim
theorem za8{op:BinOp}{t:TypeId}{x y:Operand}{a b:AV}{va vb:Value}{Q:AV->Prop}(ha:Rep own w a σ va)(hb:Rep own w b σ vb)(hq:(binX P op t a b).holds Q) :
  ∃ r v,(do eqGuard op t x y va vb; binOp op t va vb:Sem Value).run P w = .ok v w/\Q r/\Rep own w r σ v:=by
 cases a with
 | int k n=>
  cases b with
  | int k' n'=>
   simp only [Rep] at ha hb;subst ha; subst hb;simp only [binX] at hq;split at hq
   ·rename_i hk; subst hk;obtain⟨r,v,h1,h2⟩:=WH (P:=P) (own:=own) (w:=w) (σ:=σ) (t:=t) hq;refine⟨r,v,?_,h2⟩;rw [Sem.run_bind];cases op<;>simp [eqGuard]<;>exact h1
   ·obtain⟨r,v,h1,h2⟩:=xg (P:=P) (own:=own) (w:=w) (σ:=σ) (t:=t) (k':=k') hq;refine⟨r,v,?_,h2⟩;rw [Sem.run_bind];cases op<;>first | exact hq.elim | (simp [eqGuard]<;>exact h1)
  | _=>exact hq.elim
 | str s=>
  cases b with
  | str s'=>
   simp only [Rep] at ha hb;subst ha; subst hb;obtain⟨r,v,h1,h2⟩:=Wh (P:=P) (own:=own) (w:=w) (σ:=σ) (t:=t) hq;refine⟨r,v,?_,h2⟩;rw [Sem.run_bind];cases op<;>simp [eqGuard]<;>exact h1
  | _=>exact hq.elim
 | bool p=>
  cases b with
  | bool p'=>
   simp only [Rep] at ha hb;subst ha; subst hb;simp only [binX] at hq;split at hq
   ·rename_i hu;exact⟨_,.bool (p == p'),by simp only [eqGuard,binOp,Sem.run_bind,run_equal_bool hu,Result.andThen_ok,Sem.run_pure]; rfl,hq,by simp [Rep]⟩
   ·rename_i hu;exact⟨_,.bool (!(p == p')),by simp only [eqGuard,binOp,Sem.run_bind,run_equal_bool hu,Result.andThen_ok,Sem.run_pure]; rfl,hq,by simp [Rep]⟩
   ·exact hq.elim
  | _=>exact hq.elim
 | agg as=>
  cases b with
  | agg bs=>
   simp only [Rep] at ha hb;obtain⟨vs,rfl,hr⟩:=ha;obtain⟨us,rfl,hs⟩:=hb;simp only [binX] at hq;split at hq
   ·rename_i fs hu;split at hq
    ·rename_i hg;split at hq
     ·rename_i r he;have hfs:P.fieldsOf t=fs:=by simp [Program.fieldsOf,hu]
      have hrun:=jl (w:=w) (va:=vs.toArray) (vb:=us.toArray) 9998 (by simpa using hr) (by simpa using hs) he
      have heq:(Op.equalIn 10000 t (.agg vs.toArray) (.agg us.toArray)).run P w = .ok r w:=by
       rw [run_equalIn_struct w 9999 t vs.toArray us.toArray (by rw [hfs]; exact hu) hg.1,hfs]; exact hrun
      rw [Sem.run_bind,run_eqGuard_agg w op t x y vs.toArray us.toArray hg.2,Result.andThen_ok];split at hq
      ·exact⟨_,.bool r,by rw [run_eql_struct,heq]; rfl,hq,by simp [Rep]⟩
      ·exact⟨_,.bool (!r),by rw [run_neq_struct,heq]; rfl,hq,by simp [Rep]⟩
      ·exact hq.elim
     ·exact hq.elim
    ·exact hq.elim
   ·exact hq.elim
  | _=>exact hq.elim
 | sl n sz g=>
  cases b with
  | nils=>
   simp only [Rep] at ha hb;subst hb;obtain⟨p,cap,rfl,hle,hr⟩:=ha;refine yS hq λh0=> ?_
   rcases hr with hr | ⟨ad,rfl,_⟩
   ·omega
   ·rfl
  | _=>exact hq.elim
 | osl i sz off n=>
  cases b with
  | nils=>
   simp only [Rep] at ha hb;subst hb;obtain⟨e,_,_,p,cap,rfl,hle,hr⟩:=ha;refine yS hq λh0=> ?_
   rcases hr with hr | ⟨ad,_,rfl,_⟩
   ·omega
   ·rfl
  | _=>exact hq.elim
 | nilp=>
  cases b with
  | nilp=>
   simp only [Rep] at ha hb;subst hb; subst ha;exact yP (p:=none) hq
  | _=>exact hq.elim
 | ptr i off=>
  cases b with
  | nilp=>
   simp only [Rep] at ha hb;subst hb;obtain⟨e,ad,_,_,rfl⟩:=ha;exact yP (p:=some _) hq
  | _=>exact hq.elim
 | _=>exact hq.elim
theorem zfb{op:UnOp}{a:AV}{va:Value}{Q:AV->Prop}(ha:Rep own w a σ va)(hq:(unX op a).holds Q) :
  ∃ r v,(Op.unary op va).run P w = .ok v w/\Q r/\Rep own w r σ v:=by
 cases a with
 | bool b=>
  simp only [Rep] at ha; subst ha;simp only [unX] at hq;split at hq
  ·exact⟨_,_,by simp [Op.unary]; rfl,hq,by simp [Rep]⟩
  ·exact hq.elim
 | int k n=>
  simp only [Rep] at ha; subst ha;simp only [unX] at hq;split at hq
  ·obtain⟨h1,h2⟩:=hq;exact⟨_,_,by simp [Op.unary,Op.intArith,wN h1]; rfl,h2 h1,by simp [Rep]⟩
  ·exact hq.elim
 | _=>exact hq.elim
theorem U2{t:TypeId}{ty:TypeId}{a:AV}{va:Value}{Q:AV->Prop}(ha:Rep own w a σ va)(hq:(lenX P t a).holds Q) :
  ∃ r v,(Builtin.len_ #[t] ty #[va]).run P w = .ok v w/\Q r/\Rep own w r σ v:=by
 cases a with
 | str s=>
  simp only [Rep] at ha; subst ha;simp only [lenX] at hq;split at hq
  ·rename_i hu;exact⟨_,_,by simp [Builtin.len_,run_underlying hu,goInt]; rfl,hq,by simp [Rep,ByteArray.size]⟩
  ·exact hq.elim
 | nils=>
  simp only [Rep] at ha; subst ha;simp only [lenX] at hq;split at hq
  ·rename_i hu;exact⟨_,_,by simp [Builtin.len_,run_underlying hu,goInt]; rfl,hq,by simp [Rep]⟩
  ·exact hq.elim
 | sl n sz g=>
  simp only [Rep] at ha;obtain⟨a,cap,rfl,_⟩:=ha;simp only [lenX] at hq;split at hq
  ·rename_i hu;exact⟨_,_,by simp [Builtin.len_,run_underlying hu,goInt]; rfl,hq,by simp [Rep]⟩
  ·exact hq.elim
 | osl i sz off n=>
  simp only [Rep] at ha;obtain⟨e,he,hl,a,cap,rfl,_⟩:=ha;simp only [lenX] at hq;split at hq
  ·rename_i hu;exact⟨_,_,by simp [Builtin.len_,run_underlying hu,goInt]; rfl,hq,by simp [Rep]⟩
  ·exact hq.elim
 | _=>exact hq.elim
theorem wU{s:Bool}{n cap:Nat}{l h:Option AV}{vl vh:Option Value}{Q:Nat×Nat->Prop}
  (hl:∀ a,l=some a->∃ v,vl=some v/\Rep own w a σ v) (hl0:l=none->vl=none) (hh:∀ a,h=some a->∃ v,vh=some v/\Rep own w a σ v) (hh0:h=none->vh=none)
  (hc:n<=cap) (hq:(yR n l h).holds Q) :
  ∃ a b,(Instr.sliceBounds s n cap vl vh none).run P w = .ok (a,b,cap) w/\Q (a,b)/\a<=b/\b<=n:=by
 cases l with
 | none=>
  rw [hl0 rfl];cases h with
  | none=>
   rw [hh0 rfl];exact⟨0,n,by simp [Instr.sliceBounds],hq,by omega,by omega⟩
  | some b=>
   obtain⟨v,rfl,hv⟩:=hh b rfl;cases b<;>try exact hq.elim
   rename_i k m;simp only [Rep] at hv; subst hv;obtain⟨h1,h2⟩:=hq;refine⟨0,m.toNat,?_,h2 h1,by omega,by omega⟩;have:0<=m/\m<=cap:=by omega
   simp [Instr.sliceBounds,Instr.sliceBound,asIntOf,this]
 | some a=>
  obtain⟨va,rfl,hva⟩:=hl a rfl;cases h with
  | none=>
   rw [hh0 rfl];cases a<;>try exact hq.elim
   rename_i k m;simp only [Rep] at hva; subst hva;obtain⟨h1,h2⟩:=hq;refine⟨m.toNat,n,?_,h2 h1,by omega,by omega⟩;simp [Instr.sliceBounds,Instr.sliceBound,asIntOf,h1]
  | some b=>
   obtain⟨v,rfl,hv⟩:=hh b rfl;cases a<;>try exact hq.elim
   rename_i k m;cases b<;>try exact hq.elim
   rename_i k' m';simp only [Rep] at hva hv; subst hva; subst hv;obtain⟨h1,h2⟩:=hq;refine⟨m.toNat,m'.toNat,?_,h2 h1,by omega,by omega⟩;have e1:0<=m'/\m'<=cap:=by omega
   have e2:0<=m/\m<=(m'.toNat:Int):=by omega
   simp [Instr.sliceBounds,Instr.sliceBound,asIntOf,e1,e2];intro h; omega
end
end Go.Sx
end
section
namespace Go.Sx
variable [Stat]
section
variable {own:Nat->Prop} {w:World} {σ:List SE} {P:Program}
theorem Uc{ρ:Operand->AV}{ρc:Operand->Value}(h:∀ x,Rep own w (ρ x) σ (ρc x))(l:Option Operand) :
  (∀ a,l.map ρ=some a->∃ v,l.map ρc=some v/\Rep own w a σ v)/\(l.map ρ=none->l.map ρc=none):=by
 cases l with
 | none=>exact⟨λa h=>by simp at h,λ_=>rfl⟩
 | some x=>exact⟨λa ha=>by simp at ha; subst ha; exact⟨_,rfl,h x⟩,λh=>by simp at h⟩
theorem Kj{t:TypeId}{ρ:Operand->AV}{ρc:Operand->Value}(hρ:∀ x,Rep own w (ρ x) σ (ρc x)){l h:Option Operand}{a:AV}{va:Value}{Q:AV->Prop}
  (ha:Rep own w a σ va) (hq:(ud P t (l.map ρ) (h.map ρ) a).holds Q) :
  ∃ r v,(Instr.sliceAt t va (l.map ρc) (h.map ρc) none).run P w = .ok v w/\Q r/\Rep own w r σ v:=by
 obtain⟨l1,l2⟩:=Uc hρ l;obtain⟨h1,h2⟩:=Uc hρ h;cases a with
 | str s=>
  simp only [Rep] at ha; subst ha;simp only [ud] at hq;split at hq
  ·rename_i hu;obtain⟨x,y,e1,e2,e3,e4⟩:=wU (P:=P) (s:=false) (cap:=s.length) l1 l2 h1 h2 (aJ _) (Tree.zo.1 hq);refine⟨_,_,?_,e2,rfl⟩;have es:(⟨s.toArray⟩:ByteArray).size=s.length:=by simp [ByteArray.size]
   simp only [Instr.sliceAt,Sem.run_bind,run_underlying hu,Result.andThen_ok,Instr.slice,es];simp only [Option.isSome,Bool.false_eq_true,if_false,Sem.run_bind,Sem.run_pure,Result.andThen_ok,e1];congr 2;apply ByteArray.ext;apply Array.ext';rw [List.drop_take];simp [List.extract_eq_drop_take']
  ·exact hq.elim
 | nils=>
  simp only [Rep] at ha; subst ha;simp only [ud] at hq;split at hq
  ·rename_i e hu;split at hq
   ·rename_i hs;obtain⟨n,hs⟩:=Option.isSome_iff_exists.1 hs;obtain⟨x,y,e1,e2,e3,e4⟩:=wU (P:=P) (s:=true) (cap:=0) l1 l2 h1 h2 (aJ _) (Tree.zo.1 hq);have hx:x=0:=by omega
    have hy:y=0:=by omega
    subst hx; subst hy;refine⟨_,.slice none 0 0,?_,e2,by simp [Rep]⟩;simp only [Instr.sliceAt,Sem.run_bind,run_underlying hu,Result.andThen_ok,Instr.slice,e1,z3 hs,Sem.run_pure];simp
   ·exact hq.elim
  ·exact hq.elim
 | sl n sz g=>
  simp only [Rep] at ha;obtain⟨ad,cap,rfl,hc,hr⟩:=ha;simp only [ud] at hq;split at hq
  ·rename_i e hu;split at hq
   ·rename_i hs;obtain⟨x,y,e1,e2,e3,e4⟩:=wU (P:=P) (s:=true) (cap:=cap) l1 l2 h1 h2 hc (Tree.zo.1 hq);refine⟨_,.slice (if cap=x then ad else ad.map (·.add (x*sz))) (y - x) (cap - x),?_,e2,?_⟩
    ·simp only [Instr.sliceAt,Sem.run_bind,run_underlying hu,Result.andThen_ok,Instr.slice,e1,z3 hs,Sem.run_pure]
    ·simp only [Rep];refine⟨_,_,rfl,by omega,?_⟩;by_cases hz:y - x=0
     ·exact .inl hz
     ·rcases hr with hr | ⟨ad',rfl,hsp,hr⟩
      ·omega
      ·right;rw [aO (by omega)];refine⟨ad'.add (x*sz),rfl,by rw [add_plain hsp],λj o hj ho=> ?_⟩;obtain⟨h3,c,h4,h5⟩:=hr (x+j) o (by omega) ho;rw [add_plain hsp];refine⟨h3,c,?_,h5⟩;rw [<- h4]
       dsimp only
       congr 2;rw [bH];omega
   ·exact hq.elim
  ·exact hq.elim
 | osl i sz off n=>
  simp only [Rep] at ha;obtain⟨e0,he0,hl0,ad,cap,rfl,hc,hr⟩:=ha;simp only [ud] at hq;split at hq
  ·rename_i e hu;split at hq
   ·rename_i hs;obtain⟨x,y,e1,e2,e3,e4⟩:=wU (P:=P) (s:=true) (cap:=cap) l1 l2 h1 h2 hc (Tree.zo.1 hq);refine⟨_,.slice (if cap=x then ad else ad.map (·.add (x*sz))) (y - x) (cap - x),?_,e2,?_⟩
    ·simp only [Instr.sliceAt,Sem.run_bind,run_underlying hu,Result.andThen_ok,Instr.slice,e1,z3 hs,Sem.run_pure]
    ·simp only [Rep];refine⟨e0,he0,by omega,_,_,rfl,by omega,?_⟩;by_cases hz:cap - x=0
     ·exact .inl hz
     ·rcases hr with hr | ⟨ad',ha',rfl,cs,el,hcs,hsz⟩
      ·omega
      ·right;rw [aO (by omega)];refine⟨ad',ha',?_,cs,el,hcs,?_⟩
       ·simp only [Option.map];rw [add_plain rfl];simp only [bH,Nat.add_assoc]
       ·have:off+x+(cap - x)=off+cap:=by omega
        rw [this]; exact hsz
   ·exact hq.elim
  ·exact hq.elim
 | _=>exact hq.elim
theorem W0{t:TypeId}{ρ:Operand->AV}{ρc:Operand->Value}(hρ:∀ x,Rep own w (ρ x) σ (ρc x)){l:Option Operand}{h m:Operand}{a:AV}{va:Value}{Q:AV->Prop}
  (ha:Rep own w a σ va) (hq:(We P t (l.map ρ) (ρ h) (ρ m) a).holds Q) :
  ∃ r v,(Instr.sliceAt t va (l.map ρc) (some (ρc h)) (some (ρc m))).run P w = .ok v w/\Q r/\Rep own w r σ v:=by
 have hh:=hρ h;have hm:=hρ m;cases a with
 | sl n sz g=>
  simp only [Rep] at ha;obtain⟨ad,cap,rfl,hc,hr⟩:=ha;simp only [We] at hq;generalize ρ h=x at hh hq;generalize ρ m=y at hm hq;generalize ρc h=vh at hh ⊢;generalize ρc m=vm at hm ⊢;split at hq
  ·rename_i e k1 h1 k2 m1 hu;simp only [Rep] at hh hm;subst hh; subst hm;split at hq
   ·rename_i hs
    have key:∀ (z:Nat) (lv:Option Value),((lv=none/\z=0)\/∃ (k:IntKind) (i:Int),lv=some (.int k i)/\0<=i/\i<=h1/\z=i.toNat)->0<=h1->h1<=m1->m1<=n->∃ v,(Instr.sliceAt t (.slice ad n cap) lv (some (.int k1 h1)) (some (.int k2 m1))).run P w = .ok v w/\Rep own w (.sl (h1.toNat - z) sz (zf g z)) σ v:=by
     intro z lv hlo g1 g2 g3;have hz:z<=h1.toNat:=by rcases hlo with ⟨_,h⟩ | ⟨_,i,_,a,b,h⟩<;>omega
     have e1:(Instr.sliceBounds true n cap lv (some (.int k1 h1)) (some (.int k2 m1))).run P w = .ok (z,h1.toNat,m1.toNat) w:=by
      have a1:0<=m1/\m1<=(cap:Int):=by omega
      have a2:h1<=max m1 0:=by omega
      rcases hlo with ⟨rfl,rfl⟩ | ⟨k,i,rfl,b1,b2,rfl⟩
      ·simp [Instr.sliceBounds,Instr.sliceBound,asIntOf,a1,a2,g1]; try omega
      ·have a3:0<=i/\i<=((h1.toNat:Nat):Int):=by omega
       simp [Instr.sliceBounds,Instr.sliceBound,asIntOf,a1,a2,a3,g1,b1]; try omega
     refine⟨.slice (if m1.toNat=z then ad else ad.map (·.add (z*sz))) (h1.toNat - z) (m1.toNat - z),?_,?_⟩
     ·simp only [Instr.sliceAt,Sem.run_bind,run_underlying hu,Result.andThen_ok,Instr.slice,e1,z3 hs,Sem.run_pure]
     ·simp only [Rep];refine⟨_,_,rfl,by omega,?_⟩;by_cases hz0:h1.toNat - z=0
      ·exact .inl hz0
      ·rcases hr with hr | ⟨ad',rfl,hsp,hr⟩
       ·omega
       ·right;rw [aO (by omega)];refine⟨ad'.add (z*sz),rfl,by rw [add_plain hsp],λj o hj ho=> ?_⟩;obtain⟨h3,c,h4,h5⟩:=hr (z+j) o (by omega) ho;rw [add_plain hsp];refine⟨h3,c,?_,h5⟩;rw [<- h4]
        dsimp only
        congr 2;rw [bH];omega
    cases l with
    | none=>
     obtain⟨⟨g1,g2,g3⟩,hq⟩:=hq;obtain⟨v,e1,e2⟩:=key 0 none (.inl ⟨rfl,rfl⟩) g1 g2 g3;exact⟨_,v,e1,hq ⟨g1,g2,g3⟩,by simpa using e2⟩
    | some lo=>
     have hlo:=hρ lo;simp only [Option.map_some] at hq ⊢;generalize ρ lo=z at hlo hq;generalize ρc lo=vz at hlo ⊢;cases z with
     | int k i=>
      simp only [Rep] at hlo;subst hlo;obtain⟨⟨g0,g1,g2,g3⟩,hq⟩:=hq;obtain⟨v,e1,e2⟩:=key i.toNat (some (.int k i)) (.inr ⟨k,i,rfl,g0,g1,rfl⟩) (by omega) g2 g3;exact⟨_,v,e1,hq ⟨g0,g1,g2,g3⟩,e2⟩
     | _=>exact hq.elim
   ·exact hq.elim
  ·exact hq.elim
 | _=>exact hq.elim
theorem QZ{t:TypeId}{a i:AV}{va vi:Value}{Q:AV->Prop}(ha:Rep own w a σ va)(hi:Rep own w i σ vi)(hq:(xf P t i a).holds Q) :
  ∃ r v,(Instr.indexAt t va vi).run P w = .ok v w/\Q r/\Rep own w r σ v:=by
 cases a with
 | sl n sz g=>
  simp only [Rep] at ha;obtain⟨ad,cap,rfl,hc,hr⟩:=ha;simp only [xf] at hq;split at hq
  ·rename_i e k m hu;simp only [Rep] at hi; subst hi;split at hq
   ·rename_i hs;obtain⟨hb,hq⟩:=hq;have hq:=hq hb;rcases hr with hr | ⟨ad',rfl,hsp,hr⟩
    ·omega
    refine⟨_,.pointer (some (ad'.add (m.toNat*sz))),?_,hq,?_⟩
    ·simp only [Instr.indexAt,Sem.run_bind,asIntOf,Sem.run_pure,Result.andThen_ok,run_underlying hu,hb,and_self,if_true,z3 hs]
    ·simp only [Rep];refine⟨_,rfl,by rw [add_plain hsp],λo ho=> ?_⟩;obtain⟨h3,c,h4,_,h5⟩:=hr m.toNat o (by omega) ho;rw [add_plain hsp];exact⟨h3,c,by rw [<- h4]; simp [Nat.add_assoc],h5⟩
   ·exact hq.elim
  ·exact hq.elim
 | osl b sz off n=>
  simp only [Rep] at ha;obtain⟨e0,he0,hl0,ad,cap,rfl,hc,hr⟩:=ha;simp only [xf] at hq;split at hq
  ·rename_i e k m hu;simp only [Rep] at hi; subst hi;split at hq
   ·rename_i hs;obtain⟨hb,hq⟩:=hq;have hq:=hq hb;rcases hr with hr | ⟨ad',ha',rfl,cs,el,hcs,hsz⟩
    ·omega
    refine⟨_,.pointer (some ((⟨ad'.block,ad'.off+off*sz,none⟩:Addr).add (m.toNat*sz))),?_,hq,?_⟩
    ·simp only [Instr.indexAt,Sem.run_bind,asIntOf,Sem.run_pure,Result.andThen_ok,run_underlying hu,hb,and_self,if_true,z3 hs]
    ·simp only [Rep];refine⟨e0,ad',he0,ha',by omega,?_⟩;rw [add_plain rfl];simp only [bH,Nat.add_assoc,Nat.add_zero]
   ·exact hq.elim
  ·exact hq.elim
 | ptr b off=>
  simp only [Rep] at ha;obtain⟨e0,ad',he0,ha',rfl⟩:=ha;simp only [xf] at hq;split at hq
  ·rename_i len e k m hu;simp only [Rep] at hi; subst hi;split at hq
   ·rename_i sz hs;obtain⟨hb,hq⟩:=hq;have hq:=hq hb;refine⟨_,.pointer (some ((⟨ad'.block,ad'.off+off,none⟩:Addr).add (m.toNat*sz))),?_,hq,?_⟩
    ·simp only [Instr.indexAt,Sem.run_bind,asIntOf,Sem.run_pure,Result.andThen_ok,run_underlying hu,Instr.sureAddr,hb,and_self,if_true,z3 hs]
    ·simp only [Rep];refine⟨e0,ad',he0,ha',?_⟩;rw [add_plain rfl];simp only [Nat.add_assoc]
   ·exact hq.elim
  ·exact hq.elim
 | _=>exact hq.elim
theorem V8{t:TypeId}{a i:AV}{va vi:Value}{Q:AV->Prop}(ha:Rep own w a σ va)(hi:Rep own w i σ vi)(hq:(Va P t i a).holds Q) :
  ∃ r v,(Instr.index t va vi).run P w = .ok v w/\Q r/\Rep own w r σ v:=by
 cases a with
 | str s=>
  simp only [Rep] at ha; subst ha;simp only [Va] at hq;split at hq
  ·rename_i k m hu;simp only [Rep] at hi; subst hi;obtain⟨hb,hq⟩:=hq;refine⟨_,_,?_,hq hb,rfl⟩;have hlt:m.toNat<s.length:=by omega
   have:(⟨s.toArray⟩:ByteArray)[m.toNat]?=some (s.getD m.toNat 0):=by
    rw [getElem?_pos (⟨s.toArray⟩:ByteArray) m.toNat (by simpa [ByteArray.size] using hlt)];have h0:(⟨s.toArray⟩:ByteArray)[m.toNat]'(by simpa [ByteArray.size] using hlt)=s.toArray[m.toNat]'(by simpa using hlt):=rfl;rw [h0]; simp [hlt,List.getD]
   simp only [Instr.index,Sem.run_bind,asIntOf,Sem.run_pure,Result.andThen_ok,run_underlying hu,hb.1,if_true,this]
  ·exact hq.elim
 | agg cs=>
  simp only [Rep] at ha;obtain⟨vs,rfl,hr⟩:=ha;simp only [Va] at hq;split at hq
  ·rename_i len e k m hu;simp only [Rep] at hi; subst hi;split at hq
   ·rename_i sz b hs hb;obtain⟨hc,hq⟩:=hq;have hq:=hq hc;obtain⟨r,v,hQ,hR,h1,h2⟩:=yk (hr.cut (m.toNat*sz) sz) hq;refine⟨r,v,?_,hQ,hR⟩;simp only [Instr.index,Sem.run_bind,asIntOf,Sem.run_pure,Result.andThen_ok,run_underlying hu,hc.1,hc.2.1,and_self,if_true,z3 hs,part,x4 hb];cases b with
    | true=>
     have h3:=h1 rfl;subst h3;rw [<- KC];simp only [if_true,Sem.run_bind,z3 hs,Result.andThen_ok,Sem.run_pure]
    | false=>
     have h3:=h2 rfl;have h4:((vs.drop (m.toNat*sz)).take sz)[0]?=some v:=by rw [h3]; rfl
     have h5:=(Zf h4).1;simp only [Nat.add_zero] at h5;simp [h5]
   ·exact hq.elim
  ·exact hq.elim
 | _=>exact hq.elim
theorem W8{va:Value}{i sz off n N:Nat}{g:Nat->Nat->AV}(ha:Rep own w (.osl i sz off n) σ va)(hb:∀ e,σ[i]?=some e->BRep own w σ e (.arr N sz g)) :
  ∃ ad cap,va = .slice ad n cap/\n<=cap/\(n=0\/∃ d,ad=some d/\d.spot=none /\
   ∀ j o,j<n->o<sz->∃ c,w.cell? ⟨d.block,d.off+(j*sz+o),none⟩=some c/\c.oneCell'=true/\Rep own w (zf g off j o) [] c):=by
 simp only [Rep] at ha;obtain⟨e,he,hl,ad,cap,rfl,hc,hr⟩:=ha;refine⟨ad,cap,rfl,hc,?_⟩;by_cases hn:n=0
 ·exact .inl hn
 ·right;rcases hr with hr | ⟨ad',ha',rfl,cs,el,hcs,hsz⟩
  ·omega
  refine⟨_,rfl,rfl,λj o hj ho=> ?_⟩;have hb:=hb e he;simp only [BRep] at hb;obtain⟨hen,hz | ⟨ad2,cs2,el2,ha2,hcs2,hsz2,hr2⟩⟩:=hb
  ·omega
  rw [ha'] at ha2; cases ha2;rw [hcs] at hcs2; cases hcs2;obtain⟨c,h4,h5⟩:=hr2 (off+j) o (by omega) ho;refine⟨c,?_,h5⟩;refine kx hcs ?_;rw [<- h4]; dsimp only; congr 1; rw [bH]; omega
theorem uC{h:Heap}(hh:HRep own w σ h){a:AV}{va:Value}{n sz:Nat}{g:Nat->Nat->AV}(ha:Rep own w a σ va)(hs:jI h a=some (n,sz,g)) :
  ∃ ad cap,va = .slice ad n cap/\n<=cap/\(n=0\/∃ d,ad=some d/\d.spot=none /\
   ∀ j o,j<n->o<sz->∃ c,w.cell? ⟨d.block,d.off+(j*sz+o),none⟩=some c/\c.oneCell'=true/\Rep own w (g j o) [] c):=by
 cases a with
 | nils=>
  simp only [Rep] at ha; subst ha;simp only [jI,aE,bE] at hs;obtain⟨rfl,rfl,rfl⟩:=hs;exact⟨none,0,rfl,aJ _,.inl rfl⟩
 | sl n' sz' g'=>
  simp only [jI,aE,bE] at hs;obtain⟨rfl,rfl,rfl⟩:=hs;simp only [Rep] at ha;obtain⟨ad,cap,rfl,hc,hr⟩:=ha;refine⟨ad,cap,rfl,hc,?_⟩;rcases hr with hr | ⟨d,h1,h2,h3⟩
  ·exact .inl hr
  ·exact .inr ⟨d,h1,h2,λj o hj ho=>(h3 j o hj ho).2⟩
 | osl i sz' off n'=>
  simp only [jI] at hs;split at hs
  ·rename_i N sz'' g' hb;split at hs
   ·rename_i hz;subst hz;simp only [aE,bE] at hs;obtain⟨rfl,rfl,rfl⟩:=hs;exact W8 ha λe he=>hh.blk i e _ he hb
   ·cases hs
  ·rename_i k N f hb;split at hs
   ·rename_i hz;subst hz;simp only [aE,bE] at hs;obtain⟨rfl,rfl,rfl⟩:=hs;exact W8 ha λe he=>kV.1 (hh.blk i e _ he hb)
   ·cases hs
  ·rename_i N f hb;split at hs
   ·rename_i hz;subst hz;simp only [aE,bE] at hs;obtain⟨rfl,rfl,rfl⟩:=hs;exact W8 ha λe he=>kU.1 (hh.blk i e _ he hb)
   ·cases hs
  ·cases hs
 | _=>simp [jI] at hs
theorem UN{ρc:Operand->Value}{o:Oper}{x:Operand}(ho:o.op = .nilCheck x){a:AV}{Q:AV->Prop}(ha:Rep own w a σ (ρc x))(hq:(nilX a).holds Q) :
  ∃ r v,(execOp ρc o).run P w = .ok (.value v) w/\Q r/\Rep own w r σ v:=by
 cases a with
 | ptr i off=>
  have ha':=ha;simp only [Rep] at ha;obtain⟨e,ad,he,had,hv⟩:=ha;exact⟨_,_,by simp only [execOp,ho]; rw [hv]; rfl,hq,by rw [hv] at ha'; exact ha'⟩
 | eptr i sz idx off=>
  have ha':=ha;simp only [Rep] at ha;obtain⟨e,ad,he,had,hl,hv⟩:=ha;exact⟨_,_,by simp only [execOp,ho]; rw [hv]; rfl,hq,by rw [hv] at ha'; exact ha'⟩
 | iptr m g=>
  have ha':=ha;simp only [Rep] at ha;obtain⟨ad,hv,_⟩:=ha;exact⟨_,_,by simp only [execOp,ho]; rw [hv]; rfl,hq,by rw [hv] at ha'; exact ha'⟩
 | fn f b c=>
  have ha':=ha;simp only [Rep] at ha;obtain⟨va,vb,hv,_⟩:=ha;exact⟨_,_,by simp only [execOp,ho]; rw [hv]; rfl,hq,by rw [hv] at ha'; exact ha'⟩
 | _=>exact hq.elim
theorem fold_push:∀ (l:List Int) (s:ByteArray),l.foldl (λr n=>r.push (UInt8.ofNat n.toNat)) s=⟨s.data++(l.map λn=>UInt8.ofNat n.toNat).toArray⟩
 | [],s=>by simp
 | a::l,s=>by
  simp only [List.foldl_cons,fold_push l];apply ByteArray.ext;apply Array.ext';simp [ByteArray.push]
theorem XO{h:Heap}(hh:HRep own w σ h){src t:TypeId}{a:AV}{va:Value}{Q:AV->Prop}(ha:Rep own w a σ va)(hq:(KE P h src t a).holds Q) :
  ∃ r v,(convert src t va).run P w = .ok v w/\Q r/\Rep own w r σ v:=by
 cases a with
 | int k n=>
  simp only [Rep] at ha; subst ha;simp only [KE] at hq;split at hq
  ·rename_i hs ht;obtain⟨h1,h2⟩:=hq;exact⟨_,_,by simp [convert,run_underlying hs,run_underlying ht,Conv.intToInt,wN h1]; rfl,h2 h1,by simp [Rep]⟩
  ·exact hq.elim
 | str s=>
  simp only [Rep] at ha; subst ha;simp only [KE] at hq;split at hq
  ·rename_i hs ht;exact⟨_,_,by simp [convert,run_underlying hs,run_underlying ht]; rfl,hq,by simp [Rep]⟩
  ·exact hq.elim
 | _=>
  simp only [KE] at hq;split at hq
  ·rename_i e hs ht;split at hq
   ·rename_i n g he hsq;obtain⟨h1,h2⟩:=hq;obtain⟨ad,cap,rfl,hc,hr⟩:=uC hh ha hsq;refine⟨_,_,?_,h2 h1,rfl⟩;simp only [convert,Sem.run_bind,run_underlying hs,run_underlying ht,run_underlying he,Result.andThen_ok];cases ad with
    | none=>
     have hn:n=0:=by rcases hr with hr | ⟨d,h,_⟩; exact hr; cases h
     subst hn;rfl
    | some d=>
     have hl:(loadCells d n).run P w = .ok (((List.range n).map λj=>((byteOf (g j 0)).toNat:Int)).map (Value.int .u8)).toArray w:=by
      rcases hr with hr | ⟨d',h,hsp,hr⟩
      ·subst hr; rfl
      ·cases h
       rw [run_loadCells w d n (λj=>.int .u8 ((byteOf (g j 0)).toNat:Int)) (λj hj=>by
        obtain⟨c,h3,_,h4⟩:=hr j 0 hj (by omega);obtain⟨b,hb⟩:=h1 j hj;rw [hb] at h4 ⊢;simp only [Rep] at h4;subst h4;rw [add_plain hsp];rw [show d.off+(j*1+0)=d.off+j by omega] at h3;rw [h3];simp [byteOf])]
       simp
     have:=run_bytesToString (P:=P) w d n cap _ hl;rw [this,fold_push];congr 3;simp [xl,Function.comp_def]
   ·exact hq.elim
  ·exact hq.elim
end
end Go.Sx
end
section
namespace Go.Sx
variable [Stat]
section
variable {own:Nat->Prop} {w:World} {σ:List SE} {P:Program}
theorem y7(v:Value):Rep own w (uh v) σ v:=by
 cases v with
 | slice a n c=>cases a<;>cases n<;>cases c<;>simp [uh,Rep]
 | pointer a=>cases a<;>simp [uh,Rep]
 | _=>simp [uh,Rep]
theorem wJ(v:Value):Rep own w (xH v) σ v:=by
 cases v with
 | agg cs=>
  simp only [xH,Rep]
  exact⟨cs.toList,by simp,zt.2 ⟨by simp,λi a v ha hv=>by
   simp only [aN,hv,Option.map_some,aE] at ha;subst ha; exact y7 v⟩⟩
 | _=>simp only [xH]; exact y7 _
theorem qz{a:AV}{v:Value}{cs:List AV}(hc:cellsOf a=some cs)(h:Rep own w a σ v):RepL own w cs σ v.cells.toList:=by
 cases a with
 | agg l=>
  simp only [cellsOf,aE] at hc; subst hc;simp only [Rep] at h;obtain⟨vs,rfl,hr⟩:=h;simpa [Value.cells] using hr
 | undef=>simp [cellsOf] at hc
 | opt _ _ _=>simp [cellsOf] at hc
 | sl n sz g=>
  simp only [cellsOf,aE] at hc; subst hc;have h':=h;simp only [Rep] at h';obtain⟨a,cap,rfl,_⟩:=h';simp only [Value.cells,RepL]; exact⟨_,_,rfl,h,rfl⟩
 | osl i sz off n=>
  simp only [cellsOf,aE] at hc; subst hc;have h':=h;simp only [Rep] at h';obtain⟨e,he,hl,a,cap,rfl,_⟩:=h';simp only [Value.cells,RepL]; exact⟨_,_,rfl,h,rfl⟩
 | ptr i off=>
  simp only [cellsOf,aE] at hc; subst hc;have h':=h;simp only [Rep] at h';obtain⟨e,ad,he,had,rfl⟩:=h';simp only [Value.cells,RepL]; exact⟨_,_,rfl,h,rfl⟩
 | eptr i sz idx off=>
  simp only [cellsOf,aE] at hc; subst hc;have h':=h;simp only [Rep] at h';obtain⟨e,ad,he,had,hl,rfl⟩:=h';simp only [Value.cells,RepL]; exact⟨_,_,rfl,h,rfl⟩
 | omap i=>
  simp only [cellsOf,aE] at hc; subst hc;have h':=h;simp only [Rep] at h';obtain⟨e,ad,he,had,rfl⟩:=h';simp only [Value.cells,RepL]; exact⟨_,_,rfl,h,rfl⟩
 | iptr m g=>
  simp only [cellsOf,aE] at hc; subst hc;have h':=h;simp only [Rep] at h';obtain⟨ad,rfl,_⟩:=h';simp only [Value.cells,RepL]; exact⟨_,_,rfl,h,rfl⟩
 | tup l=>
  simp only [cellsOf,aE] at hc; subst hc;have h':=h;simp only [Rep] at h';obtain⟨vs,rfl,hr⟩:=h';simp only [Value.cells,RepL]; exact⟨_,_,rfl,h,rfl⟩
 | fn f a b=>
  simp only [cellsOf,aE] at hc; subst hc;have h':=h;simp only [Rep] at h';obtain⟨va,vb,rfl,hr⟩:=h';simp only [Value.cells,RepL]; exact⟨_,_,rfl,h,rfl⟩
 | mp k ag sz ks has get=>
  simp only [cellsOf,aE] at hc; subst hc;have h':=h;simp only [Rep] at h';obtain⟨b,es,clock,rfl,hr⟩:=h';simp only [Value.cells,RepL]; exact⟨_,_,rfl,h,rfl⟩
 | bot=>simp only [Rep] at h
 | _=>
  simp only [cellsOf,aE] at hc; subst hc;have h':=h;simp only [Rep] at h';subst h';simp only [Value.cells,RepL]; exact⟨_,_,rfl,h,rfl⟩
theorem vp{t:TypeId}{cs:List AV}(h:zeroCells P t=some cs):∃ v,(zeroValue t).run P w = .ok v w/\RepL own w cs σ v.cells.toList:=by
 unfold zeroCells at h;split at h
 ·rename_i i hi;split at h
  ·rename_i v hv;refine⟨v,?_,qz h (wJ v)⟩;simp [zeroValue,run_typeInfo w hi,hv]
  ·cases h
 ·cases h
theorem RepL.setAt{l new:List AV}{vs nv:List Value}{off:Nat}(h:RepL own w l σ vs)(hn:RepL own w new σ nv)(hle:off+new.length<=l.length) :
  RepL own w (setAt l off new) σ (vs.take off++nv++vs.drop (off+nv.length)):=by
 have:=hn.length;unfold Go.Sx.setAt;rw [this];exact((h.tak off).app hn).app (h.drp _)
theorem JN(off:Nat):∀ (l:List Value) (k:Nat) (cells:Array Value),off+k+l.length<=cells.size ->
  ((l.zipIdx k).foldl (λcs (x:Value×Nat)=>cs.setIfInBounds (off+x.2) x.1) cells).toList=cells.toList.take (off+k)++l++cells.toList.drop (off+k+l.length)
 | [],k,cells,h=>by simp
 | a::l,k,cells,h=>by
  simp only [aL] at h;simp only [List.zipIdx_cons,List.foldl_cons];rw [JN off l (k+1) _ (by simp; omega)];simp only [Array.toList_setIfInBounds,aL]
  have h1:(cells.toList.set (off+k) a).take (off+(k+1))=cells.toList.take (off+k)++[a]:=by
   rw [show off+(k+1)=off+k+1 by omega,List.take_succ_eq_append_getElem (by simp; omega)];simp [List.take_set_of_le]
  have h2:(cells.toList.set (off+k) a).drop (off+(k+1)+l.length)=cells.toList.drop (off+k+(l.length+1)):=by
   rw [List.drop_set_of_lt (by omega)];congr 1; omega
  rw [h1,h2];simp
theorem vD{place placeX:Nat->Option (Nat×Nat)}(hp:∀ i x,placeX i=some x->place i=some x):∀ (parts:List (Nat×AV)) (vparts:List (Nat×Value)) (cells:List AV) (vcells:Array Value) (out:List AV),
  vparts.length=parts.length->(∀ (i:Nat) p q,parts[i]?=some p->vparts[i]?=some q->p.1=q.1/\Rep own w p.2 σ q.2) ->
  RepL own w cells σ vcells.toList->vB placeX cells parts=some out ->
  ∃ vout,Instr.fill place vcells vparts=some vout/\RepL own w out σ vout.toList
 | [],vparts,cells,vcells,out,hl,hr,hc,h=>by
  have:vparts=[]:=by simpa using hl
  subst this;simp only [vB,aE] at h; subst h;exact⟨vcells,rfl,hc⟩
 | (i,v)::rest,vparts,cells,vcells,out,hl,hr,hc,h=>by
  match vparts,hl with
  | (i',v')::vrest,hl=>
   obtain⟨h1,h2⟩:=hr 0 (i,v) (i',v') (by simp) (by simp);simp only at h1 h2;subst h1;simp only [vB] at h;split at h
   ·cases h
   ·rename_i off size hpl;split at h
    ·rename_i cv hcv;split at h
     ·rename_i hle;have hcs:=qz hcv h2;have hlen:=hcs.length;have hlc:=hc.length;simp only [Array.length_toList] at hlen hlc;have hset:=hc.setAt hcs (off:=off) (by omega);have hfold:=JN off v'.cells.toList 0 vcells (by simp; omega);simp only [Nat.add_zero] at hfold;rw [<- hfold] at hset;obtain⟨vout,h3,h4⟩:=vD hp rest vrest _ _ out (by simpa using hl) (λi p q hx hy=>hr (i+1) p q (by simpa using hx) (by simpa using hy)) hset h;refine⟨vout,?_,h4⟩;simp only [Instr.fill,hp i _ hpl];rw [aO (by simp; omega)];rw [<- h3];congr 1;rw [<- Array.foldl_toList];simp
     ·cases h
    ·cases h
theorem Kn{α β:Type}{f:α->Sem β}{g:α->β} : ∀ (l:List α),(∀ x∈l,(f x).run P w = .ok (g x) w)->(l.mapM f).run P w = .ok (l.map g) w
 | [],_=>by simp
 | a::l,h=>by
  simp only [List.mapM_cons,Sem.run_bind,h a (by simp),Result.andThen_ok,Kn l (λx hx=>h x (by simp [hx])),Sem.run_pure,List.map_cons]
theorem Ku{t:TypeId}{parts:Array (Nat×Operand)}{ρ:Operand->AV}{ρc:Operand->Value}(hρ:∀ x,Rep own w (ρ x) σ (ρc x)){Q:AV->Prop}
  (hq:(KY P t (parts.toList.map λp=>(p.1,ρ p.2))).holds Q) :
  ∃ r v,(Instr.build t (parts.map λ(i,x)=>(i,ρc x))).run P w = .ok v w/\Q r/\Rep own w r σ v:=by
 have hparts:∀ (i:Nat) (p:Nat×AV) (q:Nat×Value),(parts.toList.map λp=>(p.1,ρ p.2))[i]?=some p->((parts.map λ(i,x)=>(i,ρc x)).toList)[i]?=some q->p.1=q.1/\Rep own w p.2 σ q.2:=by
  intro i p q hp hq;simp only [aN,Array.toList_map] at hp hq;cases hx:parts.toList[i]? with
  | none=>simp [hx] at hp
  | some x=>
   simp only [hx,Option.map_some,aE] at hp hq;subst hp; subst hq;exact⟨rfl,hρ x.2⟩
 simp only [KY] at hq;split at hq
 ·rename_i fs hu;split at hq
  ·rename_i cs hz;split at hq
   ·rename_i out hf;split at hq
    ·rename_i hall;obtain⟨v,hv,hr⟩:=vp (P:=P) (own:=own) (w:=w) (σ:=σ) hz
     have hsz:∀ f∈fs.toList,((do pure (f.offset,<- sizeOf f.type):Sem (Nat×Nat))).run P w = .ok (f.offset,(qj P f.type).getD 0) w:=by
      intro f hf;have:=Array.all_eq_true'.1 hall f (by simpa using hf);obtain⟨n,hn⟩:=Option.isSome_iff_exists.1 this;simp [z3 hn,hn]
     have hm:=Kn (P:=P) (w:=w) fs.toList hsz
     obtain⟨vout,h3,h4⟩:=vD (place:=λi=>(fs.map λf=>(f.offset,(qj P f.type).getD 0))[i]?) (λi x hx=>by
      simp only [Array.getElem?_map];split at hx
      ·rename_i f hf;simp only [hf,Option.map_some];cases hs:qj P f.type with
       | none=>simp [hs] at hx
       | some n=>simp [hs] at hx ⊢; exact hx
      ·cases hx) _ (parts.map λ(i,x)=>(i,ρc x)).toList cs v.cells out (by simp) hparts hr hf
     refine⟨_,.agg vout,?_,hq,by simp only [Rep]; exact⟨vout.toList,by simp,h4⟩⟩
     have hm':(fs.mapM λf=>(do pure (f.offset,<- sizeOf f.type):Sem (Nat×Nat))).run P w = .ok (fs.map λf=>(f.offset,(qj P f.type).getD 0)) w:=by
      obtain⟨l⟩:=fs;rw [List.mapM_toArray];simp only [Sem.run_map,hm];simp
     simp only [Instr.build,Sem.run_bind,hv,Result.andThen_ok,run_underlying hu,hm',h3,Sem.run_pure]
    ·exact hq.elim
   ·exact hq.elim
  ·exact hq.elim
 ·rename_i n e hu;split at hq
  ·rename_i cs sz hz hs;split at hq
   ·rename_i out hf;obtain⟨v,hv,hr⟩:=vp (P:=P) (own:=own) (w:=w) (σ:=σ) hz;obtain⟨vout,h3,h4⟩:=vD (λi x hx=>hx) _ (parts.map λ(i,x)=>(i,ρc x)).toList cs v.cells out (by simp) hparts hr hf;refine⟨_,.agg vout,?_,hq,by simp only [Rep]; exact⟨vout.toList,by simp,h4⟩⟩;simp only [Instr.build,Sem.run_bind,hv,Result.andThen_ok,run_underlying hu,z3 hs,h3,Sem.run_pure]
   ·exact hq.elim
  ·exact hq.elim
 ·exact hq.elim
end
end Go.Sx
end
section
namespace Go.Sx
variable [Stat]
open Go.RowKit (Below)
section
variable {own O:Nat->Prop} {w:World} {σ:List SE} {P:Program}
theorem wO{i:Nat} : ∀ {a:AV} {v:Value},Rep own w a σ v->Rep own w (jm i a) σ v:=by
 intro a v h;cases a<;>simp only [jm]<;>(try exact h)<;>(try (simp only [Rep]))<;>(try (split<;>first | exact h | (simp only [Rep])))
theorem RepL.map{f:AV->AV}(hf:∀ a v,Rep own w a σ v->Rep own w (f a) σ v){l:List AV}{vs:List Value}(h:RepL own w l σ vs):RepL own w (l.map f) σ vs:=by
 refine zt.2 ⟨by simp [h.length],λi a v ha hv=> ?_⟩;simp only [aN] at ha;cases hl:l[i]? with
 | none=>simp [hl] at ha
 | some x=>
  simp only [hl,Option.map_some,aE] at ha;subst ha;exact hf _ _ ((zt.1 h).2 i x v hl hv)
theorem Vw{i:Nat}{a:AV}{v:Value}(h:Rep own w a σ v):Rep own w (zY i a) σ v:=by
 cases a with
 | agg cs=>
  simp only [Rep,zY] at h ⊢;obtain⟨vs,hv,hr⟩:=h;exact⟨vs,hv,hr.map λ_ _ h=>wO h⟩
 | tup cs=>
  simp only [Rep,zY] at h ⊢;obtain⟨vs,hv,hr⟩:=h;exact⟨vs,hv,hr.map λ_ _ h=>wO h⟩
 | fn f a b=>
  simp only [Rep,zY] at h ⊢;obtain⟨va,vb,hv,hr,hs⟩:=h;exact⟨va,vb,hv,hr.map λ_ _ h=>wO h,hs.map λ_ _ h=>wO h⟩
 | opt t want x=>simp only [zY]; cases uP x<;>simp [Rep]
 | _=>simp only [zY]; exact wO (i:=i) h
theorem zN{K:List Nat} : ∀ {l:List AV},NoHL K l↔∀ a∈l,NoH K a
 | []=>by simp [NoHL]
 | a::l=>by simp [NoHL,zN (l:=l)]
theorem kr(i:Nat)(a:AV):NoH [i] (jm i a):=by
 cases a<;>simp only [jm]<;>(try (simp [NoH]; done))<;>(try (split<;>simp_all [NoH,NoHL]<;>omega))
theorem UZ(i:Nat)(a:AV):NoH [i] (zY i a):=by
 cases a with
 | agg cs=>simp only [zY,NoH]; exact zN.2 λx hx=>by obtain⟨y,_,rfl⟩:=List.mem_map.1 hx; exact kr i y
 | tup cs=>simp only [zY,NoH]; exact zN.2 λx hx=>by obtain⟨y,_,rfl⟩:=List.mem_map.1 hx; exact kr i y
 | fn f a b=>simp only [zY,NoH]; exact⟨zN.2 λx hx=>by obtain⟨y,_,rfl⟩:=List.mem_map.1 hx; exact kr i y,zN.2 λx hx=>by obtain⟨y,_,rfl⟩:=List.mem_map.1 hx; exact kr i y⟩
 | opt t want x=>simp only [zY]; cases uP x<;>simp [NoH]
 | _=>simp only [zY]; exact kr i _
theorem wM{K:List Nat}(i:Nat){a:AV}(h:NoH K a):NoH K (jm i a):=by
 cases a<;>simp only [jm]<;>(try exact h)<;>(try (simp [NoH]; done))<;>(try (split<;>first | exact h | (simp [NoH,NoHL])))
theorem K3{K:List Nat}(i:Nat){a:AV}(h:NoH K a):NoH K (zY i a):=by
 cases a with
 | agg cs=>simp only [zY,NoH] at h ⊢; exact zN.2 λx hx=>by obtain⟨y,hy,rfl⟩:=List.mem_map.1 hx; exact wM i (zN.1 h y hy)
 | tup cs=>simp only [zY,NoH] at h ⊢; exact zN.2 λx hx=>by obtain⟨y,hy,rfl⟩:=List.mem_map.1 hx; exact wM i (zN.1 h y hy)
 | fn f a b=>simp only [zY,NoH] at h ⊢; exact⟨zN.2 λx hx=>by obtain⟨y,hy,rfl⟩:=List.mem_map.1 hx; exact wM i (zN.1 h.1 y hy),zN.2 λx hx=>by obtain⟨y,hy,rfl⟩:=List.mem_map.1 hx; exact wM i (zN.1 h.2 y hy)⟩
 | opt t want x=>simp only [zY]; cases uP x<;>simp [NoH]
 | _=>simp only [zY]; exact wM i h
theorem Js{i:Nat}{a:AV}{u:Nat}{want:Bool}{x:AV}(h:zY i a = .opt u want x):a = .opt u want x/\uP x=true:=by
 cases a with
 | agg _=>cases h
 | tup _=>cases h
 | fn f p q=>cases h
 | opt t w y=>
  simp only [zY] at h;cases hf:uP y with
  | true=>rw [hf] at h; cases h; exact⟨rfl,hf⟩
  | false=>rw [hf] at h; cases h
 | osl j _ _ _=>simp only [zY,jm] at h; split at h<;>cases h
 | ptr j _=>simp only [zY,jm] at h; split at h<;>cases h
 | eptr j _ _ _=>simp only [zY,jm] at h; split at h<;>cases h
 | omap j=>simp only [zY,jm] at h; split at h<;>cases h
 | _=>cases h
theorem kN{K:List Nat}{a:AV}{u:Nat}{want:Bool}{x:AV}(h:z7 K a = .opt u want x):a = .opt u want x:=by
 induction K generalizing a with
 | nil=>exact h
 | cons i K ih=>exact(Js (ih h)).1
theorem Vq{i:Nat}{K:List Nat}{a:AV}{u:Nat}{want:Bool}{x:AV}(h:z7 (i::K) a = .opt u want x):uP x=true:=(Js (kN (K:=K) h)).2
theorem zaw{K:List Nat}{y:AV}(h:uP y=true):NoH K y:=by
 cases y<;>first | (cases h; done) | simp [NoH]
theorem zdz{i:Nat}{K:List Nat} : ∀ {a:AV},NoH [i] a->NoH K a->NoH (i::K) a:=by
 intro a
 induction a using AV.rec (motive_2:=λl=>NoHL [i] l->NoHL K l->NoHL (i::K) l)<;>simp_all [NoH,NoHL]
theorem jW:∀ {K:List Nat} {a:AV} {v:Value},Rep own w a σ v->Rep own w (z7 K a) σ v
 | [],_,_,h=>h
 | i::k,_,_,h=>jW (K:=k) (Vw h)
theorem ua{K:List Nat} : ∀ {L:List Nat} {a:AV},NoH K a->NoH K (z7 L a)
 | [],_,h=>h
 | i::k,_,h=>ua (L:=k) (K3 i h)
theorem kF:∀ (K:List Nat) (a:AV),NoH K (z7 K a)
 | [],a=>j6 a
 | i::k,a=>show NoH (i::k) (z7 k (zY i a)) from zdz (ua (UZ i a)) (kF k _)
theorem jV:∀ (K:List Nat) (ts:List AV),v9 K ts=ts.map (z7 K)
 | [],ts=>by
  have:z7 []=id:=rfl;simp [v9,this]
 | i::k,ts=>by
  simp only [v9,jV k,List.map_map];rfl
def j0(K:List Nat):Blk->Blk
 | .box cs=>.box (cs.map (z7 K))
 | b=>b
theorem zJ:∀ (K:List Nat) (h:Heap),zx K h=h.map (j0 K)
 | [],h=>by
  have:j0 []=id:=funext λb=>by cases b<;>simp [j0]; exact List.map_id _
  simp [zx,this]
 | i::k,h=>by
  simp only [zx,zJ k,List.map_map];congr 1;funext b;cases b<;>simp [j0,J2,Function.comp_def,z7]
structure Post(O:Nat->Prop)(w:World)(σ:List SE)(h:Heap)(r:Res)(v:Value)(w':World)(Z':List SE):Prop where
 rep:Rep (Own O Z') w' r.val Z' v
 ext:Ext (Own O σ) w (Own O Z') w'
 hp:HRep (Own O Z') w' Z' (zk (zx r.kill h) r.eff)
 hold:Hold r.kill w σ w' Z'
 good:Good O w' Z'
 km:∀ b,O b->b<w.heap.size->w'.heap[b]?=w.heap[b]?
 fr:∀ (i:Nat) (e:SE) (ad:Addr),σ[i]?=some e->e.ad=some ad->i∉r.eff.map (·.1)->w'.heap[ad.block]?=w.heap[ad.block]?
theorem jt{K:List Nat}{o1 o2:Nat->Prop}{w1 w2:World}{E1 E2:List SE}(hx:Ext o1 w1 o2 w2)(hh:Hold K w1 E1 w2 E2){e:SE}{b:Blk}(hb:BRep o1 w1 E1 e b)
  (hm:∀ ad,e.ad=some ad->w2.heap[ad.block]?=w1.heap[ad.block]?):BRep o2 w2 E2 e (j0 K b):=by
 cases b with
 | dead=>trivial
 | map ag sh has get pe=>
  simp only [j0,BRep] at hb ⊢;obtain⟨ad,es,clock,l,had,hes,h1,h2,h3,h4⟩:=hb;exact⟨ad,es,clock,l,had,(hm ad had).trans hes,h1,h2,h3,h4.ext hx⟩
 | box cells=>
  simp only [j0,BRep] at hb ⊢;obtain⟨ad,vs,el,had,h0,hcs,hr⟩:=hb;exact⟨ad,vs,el,had,h0,(hm ad had).trans hcs,qR hx hh _ vs (zN.2 λx hx=>by obtain⟨y,_,rfl⟩:=List.mem_map.1 hx; exact kF K y) (hr.map λ_ _ h=>jW h)⟩
 | arr n sz get=>
  simp only [j0,BRep] at hb ⊢;obtain⟨hn,hz | ⟨ad,cs,el,had,hcs,hsz,hr⟩⟩:=hb
  ·exact⟨hn,.inl hz⟩
  ·refine⟨hn,.inr ⟨ad,cs,el,had,(hm ad had).trans hcs,hsz,λj o hj ho=> ?_⟩⟩;obtain⟨c,h1,h2,h3⟩:=hr j o hj ho;exact⟨c,h1,h2,zn hx _ _ h3⟩
 | arrI _ n _=>
  simp only [j0,BRep] at hb ⊢;obtain⟨hn,hz | ⟨ad,cs,el,had,hcs,hsz,hr⟩⟩:=hb
  ·exact⟨hn,.inl hz⟩
  ·refine⟨hn,.inr ⟨ad,cs,el,had,(hm ad had).trans hcs,hsz,λj o hj ho=> ?_⟩⟩;obtain⟨c,h1,h2,h3⟩:=hr j o hj ho;exact⟨c,h1,h2,zn hx _ _ h3⟩
 | arrS n _=>
  simp only [j0,BRep] at hb ⊢;obtain⟨hn,hz | ⟨ad,cs,el,had,hcs,hsz,hr⟩⟩:=hb
  ·exact⟨hn,.inl hz⟩
  ·refine⟨hn,.inr ⟨ad,cs,el,had,(hm ad had).trans hcs,hsz,λj o hj ho=> ?_⟩⟩;obtain⟨c,h1,h2,h3⟩:=hr j o hj ho;exact⟨c,h1,h2,zn hx _ _ h3⟩
theorem Xt{σ:List SE}{ad:Addr}{n:Nat}{b:Nat} : Own O (σ++[⟨some ad,n⟩]) b↔Own O σ b\/b=ad.block:=by
 unfold Own;constructor
 ·rintro(h | ⟨e,he,a,h1,h2⟩)
  ·exact .inl (.inl h)
  rcases bY.1 he with he | he
  ·exact .inl (.inr ⟨e,he,a,h1,h2⟩)
  ·simp at he; subst he; simp at h1; subst h1; exact .inr h2.symm
 ·rintro((h | ⟨e,he,a,h1,h2⟩) | rfl)
  ·exact .inl h
  ·exact .inr ⟨e,bY.2 (.inl he),a,h1,h2⟩
  ·exact .inr ⟨_,bY.2 (.inr (List.mem_singleton.2 rfl)),ad,rfl,rfl⟩
theorem qt{h:Heap}(hh:HRep (Own O σ) w σ h)(o:Obj)(n:Nat):Ext (Own O σ) w (Own O (σ++[⟨some ⟨w.heap.size,0,none⟩,n⟩])) (w.alloc o) where
 os:=rfl
 tape:=rfl
 output:=rfl
 size:=by simp
 keep b hb _:=Below.heap_alloc w o b hb
 grow b hb:=by
  rcases Xt.1 hb with h | h
  ·exact .inl h
  ·exact .inr (Nat.le_of_eq h.symm)
theorem q5{h:Heap}(hh:HRep (Own O σ) w σ h)(o:Obj)(x:SE):Hold [] w σ (w.alloc o) (σ++[x]):=by
 intro i e he _;refine⟨by rw [bL (aG.1 he).1]; exact he,λad had cs el hcs=>⟨cs,el,?_,rfl⟩⟩;rw [Below.heap_alloc w o _ (hh.lt i e ad he had)]; exact hcs
theorem j9(b:Blk):j0 [] b=b:=by
 cases b<;>simp [j0]
 have:z7 []=id:=rfl;rw [this]; simp
theorem wv{h:Heap}(hh:HRep (Own O σ) w σ h){ob:Obj}{n:Nat}{B:Blk}
  (hB:BRep (Own O (σ++[⟨some ⟨w.heap.size,0,none⟩,n⟩])) (w.alloc ob) (σ++[⟨some ⟨w.heap.size,0,none⟩,n⟩]) ⟨some ⟨w.heap.size,0,none⟩,n⟩ B) :
  HRep (Own O (σ++[⟨some ⟨w.heap.size,0,none⟩,n⟩])) (w.alloc ob) (σ++[⟨some ⟨w.heap.size,0,none⟩,n⟩]) (h++[B]):=by
 have hget:∀ (i:Nat) (e:SE),(σ++[(⟨some ⟨w.heap.size,0,none⟩,n⟩:SE)])[i]?=some e->σ[i]?=some e\/(i=σ.length/\e=⟨some ⟨w.heap.size,0,none⟩,n⟩):=by
  intro i e he;rw [bT] at he;split at he
  ·exact .inl he
  ·rename_i hi;right
   have:i - σ.length=0:=by
    have:=(aG.1 he).1;simp at this; omega
   rw [this] at he;simp at he;exact⟨by omega,he.symm⟩
 refine⟨by simp [hh.len],?_,?_,?_⟩
 ·intro i j e f a b he hf ha hb hne;rcases hget i e he with he | ⟨hi,rfl⟩<;>rcases hget j f hf with hf | ⟨hj,rfl⟩
  ·exact hh.inj i j e f a b he hf ha hb hne
  ·have:=hh.lt i e a he ha;cases hb; simp; omega
  ·have:=hh.lt j f b hf hb;cases ha; simp; omega
  ·omega
 ·intro i e a he ha;rcases hget i e he with he | ⟨hi,rfl⟩
  ·have:=hh.lt i e a he ha;simp; omega
  ·cases ha; simp
 ·intro i e b he hb;rcases hget i e he with he | ⟨hi,rfl⟩
  ·rw [bL (by rw [<- hh.len]; exact(aG.1 he).1)] at hb;have:=jt (qt hh ob n) (q5 hh ob ⟨some ⟨w.heap.size,0,none⟩,n⟩) (hh.blk i e b he hb) (λad had=>Below.heap_alloc w _ _ (hh.lt i e ad he had))
   rwa [j9] at this
  ·rw [List.getElem?_append_right (by rw [<- hh.len]; omega),<- hh.len,hi] at hb;simp at hb;subst hb;exact hB
structure Turn(w w':World)(b:Nat):Prop where
 os:w'.os=w.os
 tape:w'.tape=w.tape
 output:w'.output=w.output
 size:w'.heap.size=w.heap.size
 other:∀ k,k≠b->w'.heap[k]?=w.heap[k]?
theorem xa(w:World)(b:Nat)(cs:Array Value):Turn w (w.setRow b cs) b:=⟨rfl,rfl,rfl,by simp,λk hk=>setRow_other w b k cs hk⟩
theorem qM{w':World}{b:Nat}(ht:Turn w w' b)(hb:Own O σ b):Ext (Own O σ) w (Own O σ) w':=
 ⟨ht.os,ht.tape,ht.output,Nat.le_of_eq ht.size.symm,λk hk hn=>ht.other k (λe=>hn (e▸hb)),λk hk=>.inl hk⟩
theorem wX{w':World}{b:Nat}(ht:Turn w w' b)(hs:∀ cs el,w.heap[b]?=some (.cells cs el (0,0))->∃ cs' el',w'.heap[b]?=some (.cells cs' el' (0,0))/\cs'.size=cs.size):Hold [] w σ w' σ:=by
 intro i e he _;refine⟨he,λad had cs el hcs=> ?_⟩;by_cases h:ad.block=b
 ·subst h; exact hs cs el hcs
 ·exact⟨cs,el,(ht.other _ h).trans hcs,rfl⟩
theorem uG{w':World}{h:Heap}{i:Nat}{e:SE}{ad:Addr}{B:Blk}(hh:HRep (Own O σ) w σ h)(he:σ[i]?=some e)(had:e.ad=some ad)(ht:Turn w w' ad.block)
  (hs:∀ cs el,w.heap[ad.block]?=some (.cells cs el (0,0))->∃ cs' el',w'.heap[ad.block]?=some (.cells cs' el' (0,0))/\cs'.size=cs.size)
  (hB:BRep (Own O σ) w' σ e B):HRep (Own O σ) w' σ (qm h i B):=by
 have hi:i<h.length:=by rw [<- hh.len]; exact(aG.1 he).1
 have hown:Own O σ ad.block:=.inr ⟨e,aY he,ad,had,rfl⟩;simp only [qm,aP hi];refine⟨by simp [hh.len],hh.inj,λj f a hf ha=>by rw [ht.size]; exact hh.lt j f a hf ha,?_⟩;intro j f b hf hb;rw [List.getElem?_set] at hb;split at hb
 ·rename_i hij;subst hij;simp at hb;obtain⟨_,rfl⟩:=hb;rw [he] at hf; cases hf;exact hB
 ·rename_i hij;have:=jt (qM ht hown) (wX ht hs) (hh.blk j f b hf hb) (λa ha=>ht.other _ (hh.inj j i f e a ad hf he ha had (λh=>hij h.symm)))
  rwa [j9] at this
theorem w5{a:AV}{v:Value}(h1:oneA a=true)(h:Rep own w a σ v):v.oneCell'=true:=by
 cases a with
 | sl n sz g=>simp only [Rep] at h; obtain⟨a,cap,rfl,_⟩:=h; rfl
 | osl i sz off n=>simp only [Rep] at h; obtain⟨e,he,hl,a,cap,rfl,_⟩:=h; rfl
 | ptr i off=>simp only [Rep] at h; obtain⟨e,ad,he,had,rfl⟩:=h; rfl
 | eptr i sz idx off=>simp only [Rep] at h; obtain⟨e,ad,he,had,hl,rfl⟩:=h; rfl
 | iptr m g=>simp only [Rep] at h; obtain⟨ad,rfl,_⟩:=h; rfl
 | fn f a b=>simp only [Rep] at h; obtain⟨va,vb,rfl,_⟩:=h; rfl
 | mp k ag sz ks has get=>simp only [Rep] at h; obtain⟨b,es,clock,rfl,_⟩:=h; rfl
 | omap i=>simp only [Rep] at h; obtain⟨e,ad,he,had,rfl⟩:=h; rfl
 | agg _=>simp [oneA] at h1
 | tup _=>simp [oneA] at h1
 | undef=>simp [oneA] at h1
 | opt _ _ _=>simp [oneA] at h1
 | bot=>simp only [Rep] at h
 | _=>simp only [Rep] at h; subst h; rfl
theorem w9{h:Heap}(hh:HRep (Own O σ) w σ h)(hg:Good O w σ)(o:Obj)(n:Nat):Good O (w.alloc o) (σ++[⟨some ⟨w.heap.size,0,none⟩,n⟩]):=by
 refine⟨λb hb=>by have:=hg.old b hb; simp; omega,λi e ad he had hO=> ?_,hg.stat.ext (qt hh o n)⟩;rw [bT] at he;split at he
 ·exact hg.dis i e ad he had hO
 ·have:i - σ.length=0:=by
   have:=(aG.1 he).1;simp at this; omega
  rw [this] at he;simp at he;subst he;simp at had;subst had;have:=hg.old _ hO;simp at this
theorem uK{h:Heap}(hg:Good O w σ)(hh:HRep (Own O σ) w σ h){cs:List AV}{vs:List Value}{el:TypeId}(hr:RepL (Own O σ) w cs σ vs) :
  Post O w σ h ⟨.ptr h.length 0,[(h.length,.box cs)],[]⟩ (.pointer (some ⟨w.heap.size,0,none⟩)) (w.alloc (.cells vs.toArray el)) (σ++[⟨some ⟨w.heap.size,0,none⟩,0⟩]) where
 rep:=by
  simp only [Rep];exact⟨⟨some ⟨w.heap.size,0,none⟩,0⟩,⟨w.heap.size,0,none⟩,by rw [<- hh.len]; simp,rfl,by simp⟩
 ext:=qt hh _ _
 hold:=q5 hh _ _
 good:=w9 hh hg _ _
 km b _ hb:=Below.heap_alloc w _ b hb
 fr i e ad he had _:=Below.heap_alloc w _ _ (hh.lt i e ad he had)
 hp:=by
  simp only [zx,zk,qm,Nat.lt_irrefl,if_false]
  exact wv hh (by
   simp only [BRep];exact⟨_,vs,el,rfl,rfl,heap_alloc_new w _,qR (qt hh _ 0) (q5 hh _ _) _ _ (wH _) hr⟩)
def frzS(K:List Nat)(σ:List SE):List SE:=σ.zipIdx.map λp=>if K.contains p.2 then⟨none,0⟩ else p.1
theorem qP(K:List Nat)(σ:List SE)(i:Nat):(frzS K σ)[i]?=(σ[i]?).map λe=>if K.contains i then⟨none,0⟩ else e:=by
 simp only [frzS,aN,List.getElem?_zipIdx];cases σ[i]?<;>simp
theorem Qi{K:List Nat}{b:Nat}(h:Own O (frzS K σ) b):O b\/∃ i e ad,σ[i]?=some e/\i∉K/\e.ad=some ad/\ad.block=b:=by
 rcases h with h | ⟨e,he,ad,h1,h2⟩
 ·exact .inl h
 right;obtain⟨i,hi⟩:=List.mem_iff_getElem?.1 he;rw [qP] at hi;cases hs:σ[i]? with
 | none=>simp [hs] at hi
 | some e'=>
  simp only [hs,Option.map_some,aE] at hi;split at hi
  ·subst hi; simp at h1
  ·rename_i hk;subst hi;exact⟨i,e',ad,hs,by simpa using hk,h1,h2⟩
theorem xb{K:List Nat}{b:Nat}(h:Own O (frzS K σ) b):Own O σ b:=by
 rcases Qi h with h | ⟨i,e,ad,h1,_,h2,h3⟩
 ·exact .inl h
 ·exact .inr ⟨e,aY h1,ad,h2,h3⟩
theorem jw(K:List Nat)(w:World)(σ:List SE):Ext (Own O σ) w (Own O (frzS K σ)) w:=⟨rfl,rfl,rfl,aJ _,λ_ _ _=>rfl,λ_ h=>.inl (xb h)⟩
theorem xk(K:List Nat)(hg:Good O w σ):Good O w (frzS K σ):=by
 refine⟨hg.old,λi e ad he had=> ?_,hg.stat.ext (jw K w σ)⟩;rw [qP] at he;cases hs:σ[i]? with
 | none=>simp [hs] at he
 | some e'=>
  simp only [hs,Option.map_some,aE] at he;split at he
  ·subst he; simp at had
  ·subst he; exact hg.dis i e' ad hs had
theorem xz(K:List Nat)(w:World)(σ:List SE):Hold K w σ w (frzS K σ):=by
 intro i e he hk;refine⟨by rw [qP,he]; simp [hk],λ_ _ cs el h=>⟨cs,el,h,rfl⟩⟩
def jc(K:List Nat)(h:Heap):Heap:=h.zipIdx.map λp=>if K.contains p.2 then .dead else p.1
theorem qU(K:List Nat)(h:Heap)(i:Nat):(jc K h)[i]?=(h[i]?).map λe=>if K.contains i then .dead else e:=by
 simp only [jc,aN,List.getElem?_zipIdx];cases h[i]?<;>simp
theorem kj{h:Heap}(hh:HRep (Own O σ) w σ h)(K:List Nat):HRep (Own O (frzS K σ)) w (frzS K σ) (jc K (zx K h)):=by
 have hget:∀ (i:Nat) (e:SE),(frzS K σ)[i]?=some e->(i∈K/\e=⟨none,0⟩)\/(i∉K/\σ[i]?=some e):=by
  intro i e he;rw [qP] at he;cases hs:σ[i]? with
  | none=>simp [hs] at he
  | some e'=>
   simp only [hs,Option.map_some,aE] at he;split at he
   ·rename_i hk; exact .inl ⟨by simpa using hk,he.symm⟩
   ·rename_i hk; subst he; exact .inr ⟨by simpa using hk,rfl⟩
 refine⟨by simp [frzS,jc,zJ,hh.len],?_,?_,?_⟩
 ·intro i j e f a b he hf ha hb hne;rcases hget i e he with ⟨_,rfl⟩ | ⟨_,he⟩
  ·cases ha
  rcases hget j f hf with ⟨_,rfl⟩ | ⟨_,hf⟩
  ·cases hb
  exact hh.inj i j e f a b he hf ha hb hne
 ·intro i e a he ha;rcases hget i e he with ⟨_,rfl⟩ | ⟨_,he⟩
  ·cases ha
  exact hh.lt i e a he ha
 ·intro i e b he hb;rw [qU,zJ,aN] at hb;cases hx:h[i]? with
  | none=>simp [hx] at hb
  | some b'=>
   simp only [hx,Option.map_some,aE] at hb;rcases hget i e he with ⟨hk,rfl⟩ | ⟨hk,he⟩
   ·rw [aP (by simpa using hk)] at hb;subst hb; trivial
   ·rw [aO (by simpa using hk)] at hb;subst hb;exact jt (jw K w σ) (xz K w σ) (hh.blk i e b' he hx) (λ_ _=>rfl)
theorem xr:∀ (K:List Nat) (h:Heap),(∀ i∈K,i<h.length)->zk h (wh K)=jc K h
 | [],h,_=>by
  simp only [wh,List.map_nil,zk];apply List.ext_getElem?;intro i;rw [qU];cases h[i]?<;>simp
 | k::K,h,hk=>by
  have h1:=hk k (by simp)
  have:zk h (wh (k::K))=zk (h.set k .dead) (wh K):=by
   simp [wh,zk,qm,h1]
  rw [this,xr K _ (λi hi=>by simpa using hk i (by simp [hi]))];apply List.ext_getElem?;intro i;rw [qU,qU,List.getElem?_set];by_cases hik:k=i
  ·subst hik;simp [h1]
  ·cases hx:h[i]? with
   | none=>simp [hik,hx]
   | some b=>
    simp only [aO hik,hx,Option.map_some,aE];have:((k::K).contains i)=(K.contains i):=by simp [Ne.symm hik]
    rw [this]
theorem QA{f:AV->Option (AV×List Nat)}{h:Heap}{K:List Nat}(hf0:∀ {a a':AV} {v:Value} {k:List Nat},Rep (Own O σ) w a σ v->f a=some (a',k)->(∀ i∈k,i∈K)->Rep (Own O (frzS K σ)) w a' [] v/\oneA a'=true/\∀ i∈k,i<h.length):∀ {l l':List AV} {vs:List Value} {k:List Nat},RepL (Own O σ) w l σ vs->frzM f l=some (l',k)->(∀ i∈k,i∈K) ->
  RepL (Own O (frzS K σ)) w l' [] vs/\(∀ a∈l',oneA a=true)/\l'.length=l.length/\∀ i∈k,i<h.length
 | [],l',vs,k,hr,hf,hk=>by
  simp only [frzM,aE,bE] at hf;obtain⟨rfl,rfl⟩:=hf;exact⟨by simpa [RepL] using hr,by simp,rfl,by simp⟩
 | a::l,l',vs,k,hr,hf,hk=>by
  simp only [frzM] at hf;split at hf
  ·rename_i a' i l2 k2 h1 h2;simp only [aE,bE] at hf;obtain⟨rfl,rfl⟩:=hf;simp only [RepL] at hr ⊢;obtain⟨v,r,rfl,h3,h4⟩:=hr;obtain⟨h5,h6,h7⟩:=hf0 h3 h1 (λi hi=>hk i (by simp [hi]));obtain⟨h8,h9,h11,h10⟩:=QA hf0 h4 h2 (λi hi=>hk i (by simp [hi]));refine⟨⟨v,r,rfl,h5,h8⟩,?_,by simp [h11],?_⟩
   ·intro x hx;rcases aM.1 hx with rfl | hx
    ·exact h6
    ·exact h9 x hx
   ·intro x hx;rcases bY.1 hx with hx | hx
    ·exact h7 x hx
    ·exact h10 x hx
  ·cases hf
theorem Vz{h:Heap}(hg:Good O w σ)(hh:HRep (Own O σ) w σ h){K:List Nat}{i:Nat}{e:SE}{ad:Addr}(he:σ[i]?=some e)(hd:e.ad=some ad)(hi:i∈K):¬ Own O (frzS K σ) ad.block:=λhown=>by
 rcases Qi hown with hO | ⟨i',e',ad',h4,h5,h6,h7⟩
 ·exact hg.dis i e ad he hd hO
 exact hh.inj i' i e' e ad' ad h4 he h6 hd (λhii=>h5 (hii▸hi)) h7
theorem QF{h:Heap}(hg:Good O w σ)(hh:HRep (Own O σ) w σ h){i sz off n n' sz':Nat}{g:Nat->Nat->AV}{v:Value}{K:List Nat}(ha:Rep (Own O σ) w (.osl i sz off n) σ v)(hs:jI h (.osl i sz off n)=some (n',sz',g))(hk:i∈K) :
  Rep (Own O (frzS K σ)) w (.sl n' sz' g) [] v/\i<h.length:=by
 have ha':=ha;simp only [Rep] at ha;obtain⟨e,he,hl,a0,cap0,hv,hc0,hr0⟩:=ha;obtain⟨ad,cap,rfl,hc,hr⟩:=uC hh ha' hs;simp only [Value.slice.injEq] at hv;obtain⟨rfl,rfl,rfl⟩:=hv;refine⟨?_,by rw [<- hh.len]; exact(aG.1 he).1⟩;simp only [Rep];refine⟨ad,cap,rfl,hc,?_⟩;rcases hr with hr | ⟨d,hd,hsp,hr⟩
 ·exact .inl hr
 ·refine .inr ⟨d,hd,hsp,λj o hj ho=> ?_⟩;obtain⟨c,h1,h2,h3⟩:=hr j o hj ho;refine⟨?_,c,h1,h2,zn (jw K w σ) _ _ h3⟩;rcases hr0 with hr0 | ⟨ad2,h8,h9,_⟩
  ·omega
  ·rw [hd] at h9;cases h9;exact(show ¬ Own O (frzS K σ) ad2.block from Vz hg hh he h8 hk)
theorem QG{h:Heap}(hg:Good O w σ)(hh:HRep (Own O σ) w σ h){K:List Nat} : ∀ (d:Nat) {a a':AV} {v:Value} {k:List Nat},Rep (Own O σ) w a σ v->frzD d h a=some (a',k)->(∀ i∈k,i∈K) ->
  Rep (Own O (frzS K σ)) w a' [] v/\oneA a'=true/\∀ i∈k,i<h.length
 | 0,_,_,_,_,_,hf,_=>by simp [frzD] at hf
 | d+1,a,a',v,k,ha,hf,hk=>by
  cases a with
  | osl i sz off n=>
   simp only [frzD] at hf;split at hf
   ·rename_i n' sz' g hs;simp only [aE,bE] at hf;obtain⟨rfl,rfl⟩:=hf;obtain⟨h1,h2⟩:=QF hg hh ha hs (hk i (by simp));exact⟨h1,rfl,λj hj=>by simp at hj; subst hj; exact h2⟩
   ·split at hf
    ·rename_i cs hb;split at hf
     ·rename_i hlen;split at hf
      ·rename_i cs' k' hm;simp only [aE,bE] at hf;obtain⟨rfl,rfl⟩:=hf;simp only [Rep] at ha;obtain⟨e,he,hl,a0,cap0,rfl,hc0,hr0⟩:=ha;have hblk:=hh.blk i e _ he hb;simp only [BRep] at hblk;obtain⟨ad,vs,el,h1,h2,h3,h4⟩:=hblk;obtain⟨h5,h6,h7,h8⟩:=QA (QG hg hh d) h4 hm (λj hj=>hk j (by simp [hj]));refine⟨?_,rfl,λj hj=> ?_⟩
       ·simp only [Rep];refine⟨a0,cap0,rfl,hc0,?_⟩;rcases hr0 with hr0 | ⟨ad2,g1,g2,cs2,el2,g3,g4⟩
        ·exact .inl (by omega)
        ·rw [h1] at g1; cases g1;refine .inr ⟨_,g2,rfl,λj o hj ho=>⟨(show ¬ Own O (frzS K σ) ad.block from Vz hg hh he h1 (hk i (by simp))),?_⟩⟩;have hvl:=h5.length
         have hlt:(off+j)*sz+o<cs'.length:=by
          have:(off+j+1)*sz<=(off+n)*sz:=aT _ (by omega);rw [Nat.succ_mul] at this;omega
         have hv:vs[(off+j)*sz+o]?=some (vs[(off+j)*sz+o]'(by omega)):=aF _;have hrep:=(zt.1 h5).2 _ _ _ (aF hlt) hv;refine⟨vs[(off+j)*sz+o]'(by omega),?_,w5 (h6 _ (bK hlt)) hrep,?_⟩
         ·simp only [World.cell?,h3,h2,Nat.zero_add];have:off*sz+(j*sz+o)=(off+j)*sz+o:=by rw [bH]; omega
          rw [this];simp [hv]
         ·simp only [zf,zd];rw [List.getD,aF hlt];exact hrep
       ·rcases aM.1 hj with rfl | hj
        ·rw [<- hh.len]; exact(aG.1 he).1
        ·exact h8 j hj
      ·cases hf
     ·cases hf
    ·cases hf
  | sl n sz g=>
   simp only [frzD,aE,bE] at hf;obtain⟨rfl,rfl⟩:=hf;exact⟨zn (jw K w σ) _ _ (by simpa only [Rep] using ha),rfl,by simp⟩
  | int _ _ | str _ | bool _ | nils=>
   simp only [frzD,aE,bE] at hf;obtain⟨rfl,rfl⟩:=hf;exact⟨by simpa only [Rep] using ha,rfl,by simp⟩
  | _=>simp [frzD] at hf
theorem yf{h:Heap}(hg:Good O w σ)(hh:HRep (Own O σ) w σ h){a a':AV}{v:Value}{k K:List Nat}(ha:Rep (Own O σ) w a σ v)(hf:frz1 h a=some (a',k))(hk:∀ i∈k,i∈K) :
  Rep (Own O (frzS K σ)) w a' [] v/\oneA a'=true/\∀ i∈k,i<h.length:=by
 cases a with
 | osl i sz off n=>
  simp only [frz1] at hf;split at hf
  ·rename_i n' sz' g hs;simp only [aE,bE] at hf;obtain⟨rfl,rfl⟩:=hf;obtain⟨h1,h2⟩:=QF hg hh ha hs (hk i (by simp));exact⟨h1,rfl,λj hj=>by simp at hj; subst hj; exact h2⟩
  ·exact QG hg hh 8 ha hf hk
 | ptr _ _=>simp [frz1] at hf
 | eptr _ _ _ _=>simp [frz1] at hf
 | omap _=>simp [frz1] at hf
 | agg _=>simp [frz1] at hf
 | tup _=>simp [frz1] at hf
 | opt _ _ _=>simp [frz1] at hf
 | undef=>simp [frz1] at hf
 | fn f x y=>
  match x,y,hf with
  | [],[],hf=>
   simp only [frz1,aE,bE] at hf;obtain⟨rfl,rfl⟩:=hf;refine⟨?_,rfl,by simp⟩;simp only [Rep] at ha ⊢;obtain⟨va,vb,hv,h1,h2⟩:=ha;exact⟨va,vb,hv,by simpa [RepL] using h1,by simpa [RepL] using h2⟩
  | [],_::_,hf=>simp [frz1] at hf
  | _::_,_,hf=>simp [frz1] at hf
 | sl n sz g=>
  simp only [frz1,aE,bE] at hf;obtain⟨rfl,rfl⟩:=hf;exact⟨zn (jw K w σ) _ _ (by simpa only [Rep] using ha),rfl,by simp⟩
 | iptr m g=>
  simp only [frz1,aE,bE] at hf;obtain⟨rfl,rfl⟩:=hf;exact⟨zn (jw K w σ) _ _ (by simpa only [Rep] using ha),rfl,by simp⟩
 | mp k ag sz ks has get=>
  simp only [frz1,aE,bE] at hf;obtain⟨rfl,rfl⟩:=hf;exact⟨zn (jw K w σ) _ _ (by simpa only [Rep] using ha),rfl,by simp⟩
 | _=>
  simp only [frz1,aE,bE] at hf;obtain⟨rfl,rfl⟩:=hf;exact⟨by simp only [Rep] at ha ⊢ <;> exact ha,rfl,by simp⟩
theorem ve{h:Heap}(hg:Good O w σ)(hh:HRep (Own O σ) w σ h):∀ {l l':List AV} {vs:List Value} {k K:List Nat},RepL (Own O σ) w l σ vs->frzL h l=some (l',k)->(∀ i∈k,i∈K) ->
  RepL (Own O (frzS K σ)) w l' [] vs/\(∀ a∈l',oneA a=true)/\∀ i∈k,i<h.length
 | [],l',vs,k,K,hr,hf,hk=>by
  simp only [frzL,aE,bE] at hf;obtain⟨rfl,rfl⟩:=hf;exact⟨by simpa [RepL] using hr,by simp,by simp⟩
 | a::l,l',vs,k,K,hr,hf,hk=>by
  simp only [frzL] at hf;split at hf
  ·rename_i a' i l2 k2 h1 h2;simp only [aE,bE] at hf;obtain⟨rfl,rfl⟩:=hf;simp only [RepL] at hr ⊢;obtain⟨v,r,rfl,h3,h4⟩:=hr;obtain⟨h5,h6,h7⟩:=yf hg hh h3 h1 (K:=K) (λi hi=>hk i (by simp [hi]));obtain⟨h8,h9,h10⟩:=ve hg hh h4 h2 (K:=K) (λi hi=>hk i (by simp [hi]));refine⟨⟨v,r,rfl,h5,h8⟩,?_,?_⟩
   ·intro x hx;rcases aM.1 hx with rfl | hx
    ·exact h6
    ·exact h9 x hx
   ·intro x hx;rcases bY.1 hx with hx | hx
    ·exact h7 x hx
    ·exact h10 x hx
  ·cases hf
end
end Go.Sx
end
section
namespace Go.Sx
variable [Stat]
open Go.RowKit (Below)
section
variable {O:Nat->Prop} {w:World} {σ:List SE} {P:Program}
theorem Hold.Xw{K:List Nat}{w1 w2 w3:World}{E1 E2 E3:List SE}(h:Hold K w1 E1 w2 E2)(k:Hold [] w2 E2 w3 E3):Hold K w1 E1 w3 E3:=by
 intro i e he hk;obtain⟨h1,h2⟩:=h i e he hk;obtain⟨h3,h4⟩:=k i e h1 (by simp);refine⟨h3,λad had cs el hcs=> ?_⟩;obtain⟨cs',el',h5,h6⟩:=h2 ad had cs el hcs;obtain⟨cs'',el'',h7,h8⟩:=h4 ad had cs' el' h5;exact⟨cs'',el'',h7,by omega⟩
theorem Z2{l:List AV} : ∀ (n i:Nat),i<n*l.length->(List.replicate n l).flatten[i]?=l[i%l.length]?
 | 0,i,h=>by simp at h
 | n+1,i,h=>by
  rw [List.replicate_succ,List.flatten_cons,bT];split
  ·rename_i hi; rw [Nat.mod_eq_of_lt hi]
  ·rename_i hi;rw [Z2 n _ (by rw [Nat.succ_mul] at h; omega)];congr 1;rw [<- Nat.mod_eq_sub_mod (by omega)]
theorem zc1{own:Nat->Prop}{w:World}{σ:List SE}{b:Nat}{vs:List Value}{el:TypeId}{n sz:Nat}{cs:List AV}(hm:w.heap[b]?=some (.cells vs.toArray el (0,0)))(hl:cs.length=n*sz)
  (hr:RepL own w cs [] vs) (h1:∀ a∈cs,oneA a=true):BRep own w σ ⟨some ⟨b,0,none⟩,n⟩ (.arr n sz (zd sz cs)):=by
 simp only [BRep];refine⟨by trivial,.inr ⟨_,_,_,rfl,hm,by simp [hr.length,hl],λj o hj ho=> ?_⟩⟩
 have hlt:j*sz+o<cs.length:=by
  rw [hl];have:(j+1)*sz<=n*sz:=aT _ (by omega);rw [Nat.succ_mul] at this; omega
 obtain⟨v,hv,hR⟩:=hr.get (aF hlt);refine⟨v,by simpa using hv,w5 (h1 _ (bK hlt)) hR,?_⟩;simp only [zd,List.getD,aF hlt,Option.getD_some];exact hR
theorem Z6{h:Heap}(hg:Good O w σ)(hh:HRep (Own O σ) w σ h){t e:TypeId}{len sz:Nat}{parts:Array (Nat×Operand)}{zs cs:List AV}{ρ:Operand->AV}{ρc:Operand->Value}(hρ:∀ x,Rep (Own O σ) w (ρ x) σ (ρc x))
  (hu:P.underlying t=some (.slice e)) (hz:zeroCells P e=some zs) (hs:qj P e=some sz) (hlen:len*sz<=16777216) (hzl:zs.length=sz)
  (hf:vB (λi=>some (i*sz,sz)) (List.replicate len zs).flatten (parts.toList.map λp=>(p.1,ρ p.2))=some cs) :
  ∃ v w' Z',(Instr.buildSlice t len (parts.map λ(i,x)=>(i,ρc x))).run P w = .ok v w'/\Post O w σ h ⟨.osl h.length sz 0 len,[(h.length,.box cs)],[]⟩ v w' Z':=by
 obtain⟨zv,hzv,hzr⟩:=vp (P:=P) (own:=Own O σ) (w:=w) (σ:=σ) hz;have hzsz:zv.cells.size=sz:=by have:=hzr.length; simpa [hzl] using this
 have hparts:∀ (i:Nat) (p:Nat×AV) (q:Nat×Value),(parts.toList.map λp=>(p.1,ρ p.2))[i]?=some p->((parts.map λ(i,x)=>(i,ρc x)).toList)[i]?=some q->p.1=q.1/\Rep (Own O σ) w p.2 σ q.2:=by
  intro i p q hp hq;simp only [aN,Array.toList_map] at hp hq;cases hx:parts.toList[i]? with
  | none=>simp [hx] at hp
  | some x=>
   simp only [hx,Option.map_some,aE] at hp hq;subst hp; subst hq;exact⟨rfl,hρ x.2⟩
 have hinit:RepL (Own O σ) w (List.replicate len zs).flatten σ ((Array.range (len*sz)).map (zv.cells[· % zv.cells.size]!)).toList:=by
  refine zt.2 ⟨by simp [hzl],λi a v ha hv=> ?_⟩
  have hi:i<len*sz:=by
   have:=(aG.1 ha).1;simpa [hzl] using this
  rw [Z2 len i (by rw [hzl]; exact hi)] at ha
  have hpos:0<sz:=by
   rcases bC sz with h0 | h0
   ·subst h0; simp at hi
   ·exact h0
  have hmod:i%sz<zv.cells.size:=by rw [hzsz]; exact Nat.mod_lt _ hpos
  have hv':zv.cells.toList[i%zs.length]?=some v:=by
   simp only [Array.toList_map,aN,Array.toList_range,List.getElem?_range hi,Option.map_some,aE] at hv;rw [hzsz] at hv;rw [hzl];have hpos':zv.cells[i%sz]! = zv.cells[i%sz]:=getElem!_pos zv.cells (i%sz) hmod;rw [hpos'] at hv;subst hv;simp [aF (show i%sz<zv.cells.toList.length by simpa using hmod)]
  exact(zt.1 hzr).2 _ a v ha hv'
 obtain⟨vout,h3,h4⟩:=vD (place:=λi=>some (i*sz,sz)) (λi x hx=>hx) _ (parts.map λ(i,x)=>(i,ρc x)).toList _ _ cs (by simp) hparts hinit hf
 have hclen:cs.length=len*sz:=by
  have e2:=h4.length
  have e3:cs.length=(List.replicate len zs).flatten.length:=by
   have:=hinit.length
   have:∀ (parts:List (Nat×AV)) (c c':List AV),vB (λi=>some (i*sz,sz)) c parts=some c'->c'.length=c.length:=by
    intro parts
    induction parts with
    | nil=>intro c c' h; simp only [vB,aE] at h; subst h; rfl
    | cons p parts ih=>
     intro c c' h;obtain⟨i,v⟩:=p;simp only [vB] at h;split at h
     ·rename_i cv hcv;split at h
      ·rename_i hle;rw [ih _ _ h];simp [setAt]; omega
      ·cases h
     ·cases h
   exact this _ _ _ hf
  simp [hzl] at e3;omega
 refine⟨.slice (some ⟨w.heap.size,0,none⟩) len len,w.alloc (.cells vout e),σ++[⟨some ⟨w.heap.size,0,none⟩,len⟩],?_,?_⟩
 ·have hnot:¬ (len*sz>2^24):=by omega
  simp only [Instr.buildSlice,Sem.run_bind,run_underlying hu,Result.andThen_ok,z3 hs,aO hnot];by_cases h0:len*sz=0
  ·have hrow:(Array.range (len*sz)).map ((#[]:Array Value)[· % (#[]:Array Value).size]!)=(Array.range (len*sz)).map (zv.cells[· % zv.cells.size]!):=by rw [h0]; simp
   rw [aP h0];simp only [Sem.run_bind,Sem.run_pure,Result.andThen_ok];rw [hrow,h3];simp [newRow]
  ·rw [aO h0];simp only [Sem.run_bind,Sem.run_pure,Result.andThen_ok,hzv];rw [h3];simp [newRow]
 ·refine⟨?_,?_,?_,?_,w9 hh hg _ _,λb _ hb=>Below.heap_alloc w _ b hb,λi e ad he had _=>Below.heap_alloc w _ _ (hh.lt i e ad he had)⟩
  ·simp only [Rep];refine⟨⟨some ⟨w.heap.size,0,none⟩,len⟩,?_,by simp,_,_,rfl,aJ _,.inr ⟨_,rfl,by simp,vout,e,heap_alloc_new w _,?_⟩⟩
   ·rw [<- hh.len]; simp
   ·have:=h4.length;simp at this ⊢; omega
  ·exact qt hh _ _
  ·simp only [zx,zk,qm,Nat.lt_irrefl,if_false]
   exact wv hh (by
    simp only [BRep];exact⟨_,vout.toList,e,rfl,rfl,by simpa using heap_alloc_new w (.cells vout e),qR (qt hh _ len) (q5 hh _ _) _ _ (wH _) h4⟩)
  ·exact q5 hh _ _
theorem uD{h:Heap}(hg:Good O w σ)(hh:HRep (Own O σ) w σ h){t e:TypeId}{len sz:Nat}{parts:Array (Nat×Operand)}{zs cs cs':List AV}{k:List Nat}{ρ:Operand->AV}{ρc:Operand->Value}(hρ:∀ x,Rep (Own O σ) w (ρ x) σ (ρc x))
  (hu:P.underlying t=some (.slice e)) (hz:zeroCells P e=some zs) (hs:qj P e=some sz) (hlen:len*sz<=16777216) (hzl:zs.length=sz)
  (hf:vB (λi=>some (i*sz,sz)) (List.replicate len zs).flatten (parts.toList.map λp=>(p.1,ρ p.2))=some cs) (hfr:frzL h cs=some (cs',k)) :
  ∃ v w' Z',(Instr.buildSlice t len (parts.map λ(i,x)=>(i,ρc x))).run P w = .ok v w'/\Post O w σ h ⟨.osl h.length sz 0 len,(h.length,.arr len sz (zd sz cs'))::wh k,k⟩ v w' Z':=by
 obtain⟨zv,hzv,hzr⟩:=vp (P:=P) (own:=Own O σ) (w:=w) (σ:=σ) hz;have hzsz:zv.cells.size=sz:=by have:=hzr.length; simpa [hzl] using this
 have hparts:∀ (i:Nat) (p:Nat×AV) (q:Nat×Value),(parts.toList.map λp=>(p.1,ρ p.2))[i]?=some p->((parts.map λ(i,x)=>(i,ρc x)).toList)[i]?=some q->p.1=q.1/\Rep (Own O σ) w p.2 σ q.2:=by
  intro i p q hp hq;simp only [aN,Array.toList_map] at hp hq;cases hx:parts.toList[i]? with
  | none=>simp [hx] at hp
  | some x=>
   simp only [hx,Option.map_some,aE] at hp hq;subst hp; subst hq;exact⟨rfl,hρ x.2⟩
 have hinit:RepL (Own O σ) w (List.replicate len zs).flatten σ ((Array.range (len*sz)).map (zv.cells[· % zv.cells.size]!)).toList:=by
  refine zt.2 ⟨by simp [hzl],λi a v ha hv=> ?_⟩
  have hi:i<len*sz:=by
   have:=(aG.1 ha).1;simpa [hzl] using this
  rw [Z2 len i (by rw [hzl]; exact hi)] at ha
  have hpos:0<sz:=by
   rcases bC sz with h0 | h0
   ·subst h0; simp at hi
   ·exact h0
  have hmod:i%sz<zv.cells.size:=by rw [hzsz]; exact Nat.mod_lt _ hpos
  have hv':zv.cells.toList[i%zs.length]?=some v:=by
   simp only [Array.toList_map,aN,Array.toList_range,List.getElem?_range hi,Option.map_some,aE] at hv;rw [hzsz] at hv;rw [hzl];have hpos':zv.cells[i%sz]! = zv.cells[i%sz]:=getElem!_pos zv.cells (i%sz) hmod;rw [hpos'] at hv;subst hv;simp [aF (show i%sz<zv.cells.toList.length by simpa using hmod)]
  exact(zt.1 hzr).2 _ a v ha hv'
 obtain⟨vout,h3,h4⟩:=vD (place:=λi=>some (i*sz,sz)) (λi x hx=>hx) _ (parts.map λ(i,x)=>(i,ρc x)).toList _ _ cs (by simp) hparts hinit hf;obtain⟨h5,h6,h7⟩:=ve hg hh h4 hfr (K:=k) (λi hi=>hi)
 have hclen:cs'.length=len*sz:=by
  have e1:=h5.length;have e2:=h4.length
  have e3:cs.length=(List.replicate len zs).flatten.length:=by
   have:=hinit.length
   have:∀ (parts:List (Nat×AV)) (c c':List AV),vB (λi=>some (i*sz,sz)) c parts=some c'->c'.length=c.length:=by
    intro parts
    induction parts with
    | nil=>intro c c' h; simp only [vB,aE] at h; subst h; rfl
    | cons p parts ih=>
     intro c c' h;obtain⟨i,v⟩:=p;simp only [vB] at h;split at h
     ·rename_i cv hcv;split at h
      ·rename_i hle;rw [ih _ _ h];simp [setAt]; omega
      ·cases h
     ·cases h
   exact this _ _ _ hf
  simp [hzl] at e3;omega
 have hh1:=kj hh k;have hg1:=xk k hg;refine⟨.slice (some ⟨w.heap.size,0,none⟩) len len,w.alloc (.cells vout e),frzS k σ++[⟨some ⟨w.heap.size,0,none⟩,len⟩],?_,?_⟩
 ·have hnot:¬ (len*sz>2^24):=by omega
  simp only [Instr.buildSlice,Sem.run_bind,run_underlying hu,Result.andThen_ok,z3 hs,aO hnot];by_cases h0:len*sz=0
  ·have hrow:(Array.range (len*sz)).map ((#[]:Array Value)[· % (#[]:Array Value).size]!)=(Array.range (len*sz)).map (zv.cells[· % zv.cells.size]!):=by rw [h0]; simp
   rw [aP h0];simp only [Sem.run_bind,Sem.run_pure,Result.andThen_ok];rw [hrow,h3];simp [newRow]
  ·rw [aO h0];simp only [Sem.run_bind,Sem.run_pure,Result.andThen_ok,hzv];rw [h3];simp [newRow]
 ·refine⟨?_,?_,?_,?_,w9 (kj hh k) hg1 _ _,λb _ hb=>Below.heap_alloc w _ b hb,λi e ad he had _=>Below.heap_alloc w _ _ (hh.lt i e ad he had)⟩
  ·simp only [Rep];refine⟨⟨some ⟨w.heap.size,0,none⟩,len⟩,?_,by simp,_,_,rfl,aJ _,.inr ⟨_,rfl,by simp,vout,e,heap_alloc_new w _,?_⟩⟩
   ·rw [<- hh.len,show σ.length=(frzS k σ).length by simp [frzS]]; simp
   ·have:=h5.length;simp at this ⊢; omega
  ·exact(jw k w σ).trans (qt hh1 _ _)
  ·have hle:∀ i∈k,i<(zx k h++[Blk.arr len sz (zd sz cs')]).length:=λi hi=>by simp [zJ]; have:=h7 i hi; omega
   have:zk (zx k h) ((h.length,.arr len sz (zd sz cs'))::wh k)=jc k (zx k h)++[Blk.arr len sz (zd sz cs')]:=by
    have hl:(zx k h).length=h.length:=by simp [zJ]
    simp only [zk,qm,<- hl,Nat.lt_irrefl,if_false];rw [xr _ _ (λi hi=>hle i hi)];simp only [jc,List.zipIdx_append,List.map_append,List.zipIdx_singleton,List.map_cons,List.map_nil,Nat.zero_add];congr 2;rw [aO (by simp; intro hc; have:=h7 _ hc; omega)]
   rw [this];exact wv hh1 (zc1 (by rw [heap_alloc_new]) hclen (wZ (qt hh1 _ _) _ _ h5) h6)
  ·exact(xz k w σ).Xw (q5 hh1 _ _)
theorem Q9{K:List Nat}{w':World}{h:Heap}{i:Nat}{e e':SE}{B:Blk}(hh:HRep (Own O σ) w σ h)(he:σ[i]?=some e)(hx:Ext (Own O σ) w (Own O (σ.set i e')) w')(hold:Hold K w σ w' (σ.set i e'))
  (hother:∀ (j:Nat) (f:SE) (ad:Addr),j≠i->σ[j]?=some f->f.ad=some ad->w'.heap[ad.block]?=w.heap[ad.block]?)
  (hdis:∀ (j:Nat) (f:SE) (ad ad':Addr),j≠i->σ[j]?=some f->f.ad=some ad->e'.ad=some ad'->ad.block≠ad'.block)
  (hlt:∀ ad',e'.ad=some ad'->ad'.block<w'.heap.size) (hB:BRep (Own O (σ.set i e')) w' (σ.set i e') e' B) :
  HRep (Own O (σ.set i e')) w' (σ.set i e') (qm (zx K h) i B):=by
 have hi:i<(zx K h).length:=by simp [zJ,<- hh.len]; exact(aG.1 he).1
 have hget:∀ (j:Nat) (f:SE),(σ.set i e')[j]?=some f->(j=i/\f=e')\/(j≠i/\σ[j]?=some f):=by
  intro j f hf;rw [List.getElem?_set] at hf;split at hf
  ·rename_i hij;split at hf
   ·exact .inl ⟨hij.symm,(Option.some.inj hf).symm⟩
   ·cases hf
  ·rename_i hij; exact .inr ⟨λh=>hij h.symm,hf⟩
 simp only [qm,aP hi];refine⟨by simp [zJ,hh.len],?_,?_,?_⟩
 ·intro j k f g a b hf hk ha hb hne;rcases hget j f hf with ⟨e1,e2⟩ | ⟨hj,hf'⟩<;>rcases hget k g hk with ⟨e3,e4⟩ | ⟨hk',hk2⟩
  ·omega
  ·subst e2; exactλh=>hdis k g b a hk' hk2 hb ha h.symm
  ·subst e4; exact hdis j f a b hj hf' ha hb
  ·exact hh.inj j k f g a b hf' hk2 ha hb hne
 ·intro j f a hf ha;rcases hget j f hf with ⟨rfl,rfl⟩ | ⟨hj,hf⟩
  ·exact hlt a ha
  ·exact bB (hh.lt j f a hf ha) hx.size
 ·intro j f b hf hb;rcases hget j f hf with ⟨rfl,rfl⟩ | ⟨hj,hf⟩
  ·rw [List.getElem?_set_self hi] at hb;cases hb; exact hB
  ·rw [bS (λh=>hj h.symm),zJ,aN] at hb;cases hx':h[j]? with
   | none=>simp [hx'] at hb
   | some b'=>
    simp only [hx',Option.map_some,aE] at hb;subst hb;exact jt hx hold (hh.blk j f b' hf hx') (λad had=>hother j f ad hj hf had)
theorem Jr{h:Heap}(hg:Good O w σ)(hh:HRep (Own O σ) w σ h){t:TypeId}{i off n:Nat}{cells cv:List AV}{va v:Value}(ha:Rep (Own O σ) w (.ptr i off) σ va)(hb:h[i]?=some (.box cells))
  (hn:qj P t=some n) (hr:RepL (Own O σ) w cv σ v.cells.toList) (hl:cv.length=n) (hle:off+n<=cells.length) (h1:cv.all oneA=true) :
  ∃ w',(Instr.storeAt t va v).run P w = .ok () w'/\Post O w σ h ⟨.undef,[(i,.box (setAt cells off cv))],[]⟩ undef w' σ:=by
 simp only [Rep] at ha;obtain⟨e,ad,he,had,rfl⟩:=ha;obtain⟨ad',vs,el,had',h0,hcs,hrb⟩:=hh.blk i e _ he hb;rw [had] at had'; cases had';have hlen:=hr.length;have hlb:=hrb.length
 have hone:∀ u∈v.cells.toList,u.oneCell'=true:=by
  intro u hu;obtain⟨j,hj,hju⟩:=List.mem_iff_getElem.1 hu;have hj':j<cv.length:=by omega
  exact w5 (bG.1 h1 _ (bK hj')) ((zt.1 hr).2 j cv[j] u (aF hj') (by rw [aF hj,hju]))
 have hst:=run_storeCells_at P ad.block off el v.cells.toList 0 vs.toArray w hcs (by simp at hlen ⊢; omega) hone;simp only [Nat.add_zero,List.toList_toArray] at hst;have hrow:(w.setRow ad.block (vs.take off++v.cells.toList++vs.drop (off+v.cells.toList.length)).toArray).heap[ad.block]?=some (.cells (vs.take off++v.cells.toList++vs.drop (off+v.cells.toList.length)).toArray el (0,0)):=setRow_heap w _ _ _ _ _ hcs;have ht:=xa w ad.block (vs.take off++v.cells.toList++vs.drop (off+v.cells.toList.length)).toArray
 have hsz:∀ cs el,w.heap[ad.block]?=some (.cells cs el (0,0))->∃ cs' el',(w.setRow ad.block (vs.take off++v.cells.toList++vs.drop (off+v.cells.toList.length)).toArray).heap[ad.block]?=some (.cells cs' el' (0,0))/\cs'.size=cs.size:=by
  intro cs el2 h;rw [hcs] at h; cases h;exact⟨_,_,hrow,by simp at hlen ⊢; omega⟩
 have hown:Own O σ ad.block:=.inr ⟨e,aY he,ad,had,rfl⟩;refine⟨w.setRow ad.block (vs.take off++v.cells.toList++vs.drop (off+v.cells.toList.length)).toArray,?_,?_⟩
 ·simp only [Instr.storeAt,Instr.sureAddr,Sem.run_bind,Sem.run_pure,Result.andThen_ok,storeVar,z3 hn];rw [aO (by simp at hlen ⊢; omega),h0,Nat.zero_add];exact hst
 ·refine⟨trivial,qM ht hown,?_,wX ht hsz,⟨λb hb=>by rw [ht.size]; exact hg.old b hb,hg.dis,hg.stat.ext (qM ht hown)⟩,λb hb _=>ht.other b (λh=>hg.dis i e ad he had (h▸hb)),λj f a hf ha hj=>ht.other _ (hh.inj j i f e a ad hf he ha had (by simpa using hj))⟩;simp only [zx,zk];refine uG hh he had ht hsz ?_;simp only [BRep];refine⟨ad,_,el,had,h0,hrow,qR (qM ht hown) (wX ht hsz) _ _ (wH _) (hrb.setAt hr (by omega))⟩
theorem uE{h:Heap}(hg:Good O w σ)(hh:HRep (Own O σ) w σ h){t:TypeId}{i sz idx off n N:Nat}{g:Nat->Nat->AV}{cv cv':List AV}{k:List Nat}{va v:Value}(ha:Rep (Own O σ) w (.eptr i sz idx off) σ va)(hb:h[i]?=some (.arr N sz g))
  (hn:qj P t=some n) (hr:RepL (Own O σ) w cv σ v.cells.toList) (hl:cv.length=n) (hle:off+n<=sz) (hf:frzL h cv=some (cv',k)) (hk:i∉k) :
  ∃ w' Z',(Instr.storeAt t va v).run P w = .ok () w'/\Post O w σ h ⟨.undef,(i,.arr N sz (updG g idx off cv'))::wh k,k⟩ undef w' Z':=by
 simp only [Rep] at ha;obtain⟨e,ad,he,had,hidx,rfl⟩:=ha;obtain⟨hen,hz | ⟨ad',cs,el,had',hcs,hsz,hrb⟩⟩:=hh.blk i e _ he hb
 ·omega
 rw [had] at had'; cases had';obtain⟨h5,h6,h7⟩:=ve hg hh hr hf (K:=k) (λi hi=>hi);have hlen:=h5.length;have hlen2:=hr.length
 have hone:∀ u∈v.cells.toList,u.oneCell'=true:=by
  intro u hu;obtain⟨j,hj,hju⟩:=List.mem_iff_getElem.1 hu;have hj':j<cv'.length:=by omega
  exact w5 (h6 _ (bK hj')) ((zt.1 h5).2 j cv'[j] u (aF hj') (by rw [aF hj,hju]))
 have hbnd:ad.off+(idx*sz+off)+v.cells.toList.length<=cs.size:=by
  have:(idx+1)*sz<=N*sz:=aT _ (by omega);rw [Nat.succ_mul] at this; omega
 have hst:=run_storeCells_at P ad.block (ad.off+(idx*sz+off)) el v.cells.toList 0 cs w hcs (by omega) hone;simp only [Nat.add_zero] at hst;generalize hnew:(cs.toList.take (ad.off+(idx*sz+off))++v.cells.toList++cs.toList.drop (ad.off+(idx*sz+off)+v.cells.toList.length)).toArray=cs' at hst;have hcs'sz:cs'.size=cs.size:=by rw [<- hnew]; simp at hbnd ⊢; omega
 have hrow:(w.setRow ad.block cs').heap[ad.block]?=some (.cells cs' el (0,0)):=setRow_heap w _ _ _ _ _ hcs;have ht:=xa w ad.block cs'
 have hszs:∀ c el2,w.heap[ad.block]?=some (.cells c el2 (0,0))->∃ c' el',(w.setRow ad.block cs').heap[ad.block]?=some (.cells c' el' (0,0))/\c'.size=c.size:=by
  intro c el2 h;rw [hcs] at h; cases h;exact⟨_,_,hrow,hcs'sz⟩
 have hh1:=kj hh k;have he1:(frzS k σ)[i]?=some e:=by rw [qP,he]; simp [hk]
 have hown:Own O (frzS k σ) ad.block:=.inr ⟨e,aY he1,ad,had,rfl⟩;refine⟨w.setRow ad.block cs',frzS k σ,?_,?_⟩
 ·simp only [Instr.storeAt,Instr.sureAddr,Sem.run_bind,Sem.run_pure,Result.andThen_ok,storeVar,z3 hn];rw [aO (by simp at hlen2 ⊢; omega)];exact hst
 ·refine⟨trivial,(jw k w σ).trans (qM ht hown),?_,(xz k w σ).Xw (wX ht hszs),⟨λb hb=>by rw [ht.size]; exact hg.old b hb,(xk k hg).dis,(xk k hg).stat.ext (qM ht hown)⟩,λb hb _=>ht.other b (λh=>hg.dis i e ad he had (h▸hb)),λj f a hf ha hj=>ht.other _ (hh.inj j i f e a ad hf he ha had (λh=>hj (by simp [h])))⟩;have hil:i<h.length:=by rw [<- hh.len]; exact(aG.1 he).1
  have heq:zk (zx k h) ((i,.arr N sz (updG g idx off cv'))::wh k)=qm (jc k (zx k h)) i (.arr N sz (updG g idx off cv')):=by
   have hl1:i<(zx k h).length:=by simpa [zJ] using hil
   have hl2:i<(jc k (zx k h)).length:=by simpa [jc,zJ] using hil
   simp only [zk,qm,aP hl1,aP hl2];rw [xr _ _ (λj hj=>by simp [zJ]; exact h7 j hj)];apply List.ext_getElem?;intro j;rw [qU,List.getElem?_set,List.getElem?_set,qU];by_cases hij:i=j
   ·subst hij; simp [hl1,hl2,hk]
   ·simp [hij]
  rw [heq];refine uG hh1 he1 had ht hszs ?_;simp only [BRep];refine⟨hen,.inr ⟨ad,cs',el,had,hrow,by omega,λj o hj ho=> ?_⟩⟩;obtain⟨c,h8,h9,h10⟩:=hrb j o hj ho;have hx:=(jw k w σ).trans (qM ht hown)
  have hpos:∀ p:Nat,cs'[p]?=if ad.off+(idx*sz+off)<=p/\p<ad.off+(idx*sz+off)+v.cells.toList.length then v.cells.toList[p - (ad.off+(idx*sz+off))]? else cs[p]?:=by
   intro p;rw [<- hnew];simp only [List.getElem?_toArray,bT,bO,aH,Array.length_toList];have hmin:min (ad.off+(idx*sz+off)) cs.size=ad.off+(idx*sz+off):=by omega
   rw [hmin];by_cases c1:p<ad.off+(idx*sz+off)
   ·rw [aP (by omega),aP c1,aO (by omega)];rw [bR,aP c1,Array.getElem?_toList]
   ·by_cases c2:p<ad.off+(idx*sz+off)+v.cells.size
    ·rw [aP (by simpa using c2),aO c1,aP ⟨by omega,by simpa using c2⟩]
    ·rw [aO (by simpa using c2),aO (by simp; omega),List.getElem?_drop,Array.getElem?_toList];congr 1;have:v.cells.toList.length=v.cells.size:=by simp
     omega
  by_cases hc:j=idx/\off<=o/\o<off+cv'.length
  ·obtain⟨rfl,ho1,ho2⟩:=hc;have hlt:o - off<cv'.length:=by omega
   obtain⟨u,hu,hR⟩:=h5.get (aF hlt);refine⟨u,?_,w5 (h6 _ (bK hlt)) hR,?_⟩
   ·rw [hpos,aP ⟨by omega,by omega⟩];rw [<- hu]; congr 1; omega
   ·simp only [updG,ho1,ho2,and_self,if_true];rw [show cv'.getD (o - off) .undef=cv'[o - off] by simp [List.getD,hlt]];exact zn (qM ht hown) _ _ hR
  ·refine⟨c,?_,h9,?_⟩
   ·rw [hpos,aO,h8];rintro⟨a1,a2⟩;apply hc
    have hjo:j=idx:=by
     rcases Nat.lt_trichotomy j idx with hlt | heq | hgt
     ·have:(j+1)*sz<=idx*sz:=aT _ (by omega);rw [Nat.succ_mul] at this; omega
     ·exact heq
     ·have:(idx+1)*sz<=j*sz:=aT _ (by omega);rw [Nat.succ_mul] at this; omega
    subst hjo;exact⟨rfl,by omega,by omega⟩
   ·simp only [updG,aO hc];exact zn hx _ _ h10
end
end Go.Sx
end
section
namespace Go.Sx
variable [Stat]
open Go.RowKit (Below)
section
variable {O:Nat->Prop} {w:World} {σ:List SE} {P:Program}
theorem kK{own:Nat->Prop}{w:World}{t:TypeId}{i:TypeInfo}{cs:List AV}(h:zeroCells P t=some cs)(hi:P.info? t=some i):∃ v,i.zero=some v/\RepL own w cs [] v.cells.toList:=by
 unfold zeroCells at h;rw [hi] at h;simp only at h;split at h
 ·rename_i v hv;exact⟨v,hv,qz h (wJ v)⟩
 ·cases h
theorem zbp{z:Array Value}{n k:Nat}(hk:k<n)(hz:k%z.size<z.size):(madeCells z n)[k]?=z[k%z.size]?:=by
 have h0:z[k%z.size]! = z[k%z.size]:=getElem!_pos z (k%z.size) hz;simp [madeCells,hk,h0,hz]
theorem Zc{h:Heap}(hg:Good O w σ)(hh:HRep (Own O σ) w σ h){t e:TypeId}{i:TypeInfo}{z:List AV}{kl kc:IntKind}{l c:Int}(hu:P.underlying t=some (.slice e))(hi0:P.info? e=some i)(hz:zeroCells P e=some z)
  (hzl:z.length=i.size) (hz1:z.all oneA=true) (h0:0<=l) (hlc:l<=c) (hc:inR .i64 c) (hb:c.toNat*i.bytes<=jx) :
  ∃ v w' Z',(Instr.makeSlice t (.int kl l) (.int kc c)).run P w = .ok v w'/\Post O w σ h ⟨.osl h.length i.size 0 l.toNat,[(h.length,.arr l.toNat i.size (qb z))],[]⟩ v w' Z':=by
 obtain⟨zv,hzv,hzr0⟩:=kK (own:=Own O σ) (w:=w) hz hi0;obtain⟨zv',hzv',hzr⟩:=kK (own:=Own O (σ++[⟨some ⟨w.heap.size,0,none⟩,l.toNat⟩])) (w:=w.alloc (.cells (madeCells zv.cells (c.toNat*i.size)) e)) hz hi0;rw [hzv] at hzv'; cases hzv';have hzs:zv.cells.size=i.size:=by have:=hzr.length; simpa [hzl] using this
 have hbytes:(i.bytes:Int)*c<=281474976710656:=by
  have h1:(i.bytes:Int)*c=((c.toNat*i.bytes:Nat):Int):=by
   rw [Int.natCast_mul,Int.toNat_of_nonneg (by omega),Int.mul_comm]
  rw [h1]; unfold jx at hb; omega
 have hc':c<=9223372036854775807:=hc.2;have hr:=run_make (P:=P) w t e i zv hu hi0 hzv kl kc l c h0 hlc hbytes hc';have hlc':l.toNat<=c.toNat:=by omega
 refine⟨_,_,σ++[⟨some ⟨w.heap.size,0,none⟩,l.toNat⟩],hr,?_,qt hh _ _,?_,q5 hh _ _,w9 hh hg _ _,λb _ hb=>Below.heap_alloc w _ b hb,λi e ad he had _=>Below.heap_alloc w _ _ (hh.lt i e ad he had)⟩
 ·simp only [Rep];refine⟨⟨some ⟨w.heap.size,0,none⟩,l.toNat⟩,?_,by simp,_,_,rfl,hlc',.inr ⟨_,rfl,by simp,_,e,heap_alloc_new w _,?_⟩⟩
  ·rw [<- hh.len]; simp
  ·simp [size_madeCells]
 ·simp only [zx,zk,qm,Nat.lt_irrefl,if_false];refine wv hh ?_;simp only [BRep];refine⟨by trivial,.inr ⟨_,_,e,rfl,heap_alloc_new w _,?_,λj o hj ho=> ?_⟩⟩
  ·simp [size_madeCells]; exact aT _ hlc'
  ·have hk:j*i.size+o<c.toNat*i.size:=by
    have:(j+1)*i.size<=c.toNat*i.size:=aT _ (by omega);rw [Nat.succ_mul] at this; omega
   have hmod:(j*i.size+o)%zv.cells.size=o:=by
    rw [hzs,bJ,Nat.mul_add_mod]; exact Nat.mod_eq_of_lt ho
   have ho':o<z.length:=by omega
   obtain⟨u,hu',hR⟩:=hzr.get (aF ho');refine⟨u,?_,w5 (bG.1 hz1 _ (bK ho')) hR,?_⟩
   ·simp only [Nat.zero_add];rw [zbp hk (by rw [hmod,hzs]; exact ho),hmod];simpa using hu'
   ·simp only [qb,List.getD,aF ho',Option.getD_some];exact hR
theorem uy{h:Heap}(hh:HRep (Own O σ) w σ h){tx e' sz n:Nat}{g:Nat->Nat->AV}{a:AV}{va:Value}(hu:P.underlying tx=some (.slice e'))(ha:Rep (Own O σ) w a σ va)(hs:Vj sz h a=some (n,g)) :
  ∃ news,Src P sz tx va n news w/\∀ j o,j<n->o<sz->∃ c,news[j*sz+o]?=some c/\c.oneCell'=true/\Rep (Own O σ) w (g j o) [] c:=by
 have key:∀ sz',sz'=sz\/n=0->jI h a=some (n,sz',g)->∃ news,Src P sz tx va n news w/\∀ j o,j<n->o<sz->∃ c,news[j*sz+o]?=some c/\c.oneCell'=true/\Rep (Own O σ) w (g j o) [] c:=by
  intro sz' hsz hs;obtain⟨ad,cap,rfl,hc,hr⟩:=uC hh ha hs;by_cases hn:n=0
  ·subst hn;refine⟨[],?_,λj o hj=>by omega⟩;cases ad with
   | none=>exact Src.ofNil w hu cap
   | some d=>exact Src.ofSlice w hu d 0 cap [] (by simp) (by simp) (by simp)
  ·have hsz:sz'=sz:=by omega
   subst hsz;rcases hr with hr | ⟨d,rfl,hsp,hr⟩
   ·exact absurd hr hn
   by_cases hz:sz'=0
   ·subst hz;exact⟨[],Src.ofSlice w hu d n cap [] (by simp) (by simp) (by simp),λj o _ ho=>by omega⟩
   have hpos:0<sz':=by omega
   obtain⟨f,hf⟩:=Classical.axiomOfChoice (r:=λ(k:Nat) c=>k<n*sz'->w.cell? ⟨d.block,d.off+k,none⟩=some c/\c.oneCell'=true/\Rep (Own O σ) w (g (k/sz') (k%sz')) [] c)
    (λk=>by
     by_cases hk:k<n*sz'
     ·obtain⟨c,h1,h2,h3⟩:=hr (k/sz') (k%sz') (by rw [Nat.div_lt_iff_lt_mul hpos]; exact hk) (Nat.mod_lt _ hpos);exact⟨c,λ_=>⟨by rw [<- h1]; congr 3; rw [bJ]; exact(Nat.div_add_mod k sz').symm,h2,h3⟩⟩
     ·exact⟨undef,λh=>absurd h hk⟩)
   refine⟨(List.range (n*sz')).map f,Src.ofSlice w hu d n cap _ (by simp) (λj u hj=> ?_) (λu hu=> ?_),λj o hj ho=> ?_⟩
   ·by_cases hjn:j<n*sz'
    ·simp [hjn] at hj; subst hj;rw [add_plain hsp]; exact(hf j hjn).1
    ·simp [hjn] at hj
   ·obtain⟨k,hk,rfl⟩:=List.mem_map.1 hu;exact(hf k (by simpa using hk)).2.1
   ·have hk:j*sz'+o<n*sz':=by
     have:(j+1)*sz'<=n*sz':=aT _ (by omega);rw [Nat.succ_mul] at this; omega
    obtain⟨h1,h2,h3⟩:=hf _ hk;refine⟨f (j*sz'+o),by simp [hk],h2,?_⟩;have e1:(j*sz'+o)/sz'=j:=by rw [bJ,Nat.mul_add_div hpos,Nat.div_eq_of_lt ho,Nat.add_zero]
    have e2:(j*sz'+o)%sz'=o:=by rw [bJ,Nat.mul_add_mod]; exact Nat.mod_eq_of_lt ho
    rw [e1,e2] at h3;exact h3
 cases a with
 | nils=>
  simp only [Vj,aE,bE] at hs;obtain⟨rfl,rfl⟩:=hs;exact key 0 (.inr rfl) rfl
 | _=>
  simp only [Vj] at hs;split at hs
  ·rename_i n' sz' g' hs';split at hs
   ·rename_i hz;simp only [aE,bE] at hs;obtain⟨rfl,rfl⟩:=hs;exact key sz' (.inl hz) hs'
   ·cases hs
  ·cases hs
theorem Jb{t tx ty e:TypeId}{i:TypeInfo}{b o sLen sCap:Nat}{cur:Array Value}{el:TypeId}{x:Value}{n:Nat}{news:List Value}(ht:P.underlying t=some (.slice e))(hi:P.info? e=some i)(hs:Src P i.size tx x n news w)
  (hroom:sLen+n<=sCap) (hcur:w.heap[b]?=some (.cells cur el (0,0))) (hfit:o+sLen*i.size+news.length<=cur.size) :
  (Builtin.append_ #[t,tx] ty #[.slice (some ⟨b,o,none⟩) sLen sCap,x]).run P w = .ok (.slice (some ⟨b,o,none⟩) (sLen+n) sCap) (w.setRow b (cur.toList.take (o+sLen*i.size)++news++cur.toList.drop (o+sLen*i.size+news.length)).toArray):=by
 have hst:=run_storeCells_at P b (o+sLen*i.size) el news 0 cur w hcur (by omega) hs.one;simp only [Nat.add_zero] at hst;rcases hs.kind with ⟨e',hk⟩ | hk<;>simp [Builtin.append_,run_underlying ht,run_underlying hk,sizeOf,typeInfo,hi,hs.len,hroom,hs.cells,Addr.add_lit,hst]
theorem kY{t tx ty e:TypeId}{i:TypeInfo}{base:Option Addr}{x:Value}(ht:P.underlying t=some (.slice e))(hi:P.info? e=some i)(hs:Src P i.size tx x 0 [] w)(sCap:Nat)(sLen:Nat)(hl:sLen<=sCap) :
  (Builtin.append_ #[t,tx] ty #[.slice base sLen sCap,x]).run P w = .ok (.slice base sLen sCap) w:=by
 rcases hs.kind with ⟨e',hk⟩ | hk<;>cases base<;>simp [Builtin.append_,run_underlying ht,run_underlying hk,sizeOf,typeInfo,hi,hs.len,hl,hs.cells,storeCells]
theorem Jq{h:Heap}(hh:HRep (Own O σ) w σ h):HRep (Own O σ) w.drew σ h:=by
 have hx:Ext (Own O σ) w (Own O σ) w.drew:=⟨rfl,rfl,rfl,aJ _,λ_ _ _=>rfl,λ_ h=>.inl h⟩;have ho:Hold [] w σ w.drew σ:=λi e he _=>⟨he,λad had cs el hcs=>⟨cs,el,hcs,rfl⟩⟩
 refine⟨hh.len,hh.inj,hh.lt,λi e b he hb=> ?_⟩;have:=jt hx ho (hh.blk i e b he hb) (λ_ _=>rfl)
 rwa [j9] at this
theorem ext_nil(w:World)(σ:List SE)(n:Nat):Ext (Own O σ) w (Own O (σ++[⟨none,n⟩])) w:=by
 refine⟨rfl,rfl,rfl,aJ _,λ_ _ _=>rfl,λb hb=>.inl ?_⟩;rcases hb with hb | ⟨e,he,ad,h1,h2⟩
 ·exact .inl hb
 rcases bY.1 he with he | he
 ·exact .inr ⟨e,he,ad,h1,h2⟩
 ·simp at he; subst he; simp at h1
theorem Yl{h:Heap}(hg:Good O w σ)(hh:HRep (Own O σ) w σ h)(sz:Nat)(g:Nat->Nat->AV) :
  HRep (Own O (σ++[⟨none,0⟩])) w (σ++[⟨none,0⟩]) (h++[.arr 0 sz g])/\Good O w (σ++[⟨none,0⟩])/\Hold [] w σ w (σ++[⟨none,0⟩]):=by
 have hget:∀ (i:Nat) (e:SE),(σ++[(⟨none,0⟩:SE)])[i]?=some e->σ[i]?=some e\/(i=σ.length/\e=⟨none,0⟩):=by
  intro i e he;rw [bT] at he;split at he
  ·exact .inl he
  ·right
   have:i - σ.length=0:=by
    have:=(aG.1 he).1;simp at this; omega
   rw [this] at he;simp at he;exact⟨by omega,he.symm⟩
 have hold:Hold [] w σ w (σ++[⟨none,0⟩]):=λi e he _=>⟨by rw [bL (aG.1 he).1]; exact he,λad had cs el hcs=>⟨cs,el,hcs,rfl⟩⟩
 refine⟨⟨by simp [hh.len],?_,?_,?_⟩,⟨hg.old,?_,hg.stat.ext (ext_nil w σ 0)⟩,hold⟩
 ·intro i j e f a b he hf ha hb hne;rcases hget i e he with he | ⟨_,rfl⟩
  ·rcases hget j f hf with hf | ⟨_,rfl⟩
   ·exact hh.inj i j e f a b he hf ha hb hne
   ·cases hb
  ·cases ha
 ·intro i e a he ha;rcases hget i e he with he | ⟨_,rfl⟩
  ·exact hh.lt i e a he ha
  ·cases ha
 ·intro i e b he hb;rcases hget i e he with he | ⟨hi,rfl⟩
  ·rw [bL (by rw [<- hh.len]; exact(aG.1 he).1)] at hb;have:=jt (ext_nil w σ 0) hold (hh.blk i e b he hb) (λ_ _=>rfl)
   rwa [j9] at this
  ·rw [List.getElem?_append_right (by rw [<- hh.len]; omega),<- hh.len,hi] at hb;simp at hb;subst hb;simp [BRep]
 ·intro i e ad he had;rcases hget i e he with he | ⟨_,rfl⟩
  ·exact hg.dis i e ad he had
  ·cases had
theorem W6{h:Heap}(hg:Good O w σ)(hh:HRep (Own O σ) w σ h){t tx ty:TypeId}{s x:AV}{vs vx:Value}{Q:Res->Prop}(hs:Rep (Own O σ) w s σ vs)(hx:Rep (Own O σ) w x σ vx)(hq:(Ws P h t tx s x).holds Q) :
  ∃ r v w' Z',(Builtin.append_ #[t,tx] ty #[vs,vx]).run P w = .ok v w'/\Q r/\Post O w σ h r v w' Z':=by
 simp only [Ws] at hq;split at hq
 ·rename_i e e' hu hu';split at hq
  ·rename_i i hi;split at hq
   ·exact hq.elim
   ·rename_i hne;have hb0:i.bytes≠0:=λh=>hne (.inl h)
    obtain⟨z,hz,hzs⟩:∃ z,i.zero=some z/\z.cells.size=i.size:=by
     cases hz:zeroCells P e with
     | none=>exact absurd (.inr (by simp [hz])) hne
     | some zs=>
      by_cases hzl:zs.length=i.size
      ·obtain⟨z,h1,h2⟩:=kK (own:=Own O σ) (w:=w) hz hi;exact⟨z,h1,by have:=h2.length; simpa [hzl] using this⟩
      ·exact absurd (.inr (by simp [hz,hzl])) hne
    have hroomlen:∀ m:Nat,m*i.bytes<=jx->m<=140737488355328:=λm hm=>by
     have:m*1<=m*i.bytes:=aS _ (by omega);unfold jx at hm; omega
    split at hq
    ·
     rename_i n2 g2 hsx;obtain⟨hroom,hq⟩:=hq;have hq:=hq hroom;simp only [Rep] at hs;subst hs;obtain⟨news,hsrc,hnews⟩:=uy hh hu' hx hsx;by_cases hn:n2=0
     ·subst hn;have:news=[]:=by have:=hsrc.newsLen; simpa using this
      subst this;obtain⟨k1,k2,k3⟩:=Yl hg hh i.size g2;refine⟨_,.slice none 0 0,w,σ++[⟨none,0⟩],kY hu hi hsrc 0 0 (aJ _),hq,?_,ext_nil w σ 0,?_,k3,k2,λ_ _ _=>rfl,λ_ _ _ _ _ _=>rfl⟩
      ·simp only [Rep];exact⟨⟨none,0⟩,by rw [<- hh.len]; simp,by simp,none,0,rfl,aJ _,.inl rfl⟩
      ·simp only [zx,zk,qm,Nat.lt_irrefl,if_false];exact k1
     ·have hlen:=hroomlen n2 hroom;have hrun:=run_append_grow_src (P:=P) w t tx e (ty:=ty) i z hu hi hz none 0 0 [] (by simp [Builtin.firstCells]) vx n2 news hsrc (by omega) (by omega) (growslice_fits (by omega) (by simpa [jx] using hroom));simp only [Nat.zero_add] at hrun;have hh':=Jq hh;have hg':Good O w.drew σ:=⟨hg.old,hg.dis,hg.stat.ext ⟨rfl,rfl,rfl,aJ _,λ_ _ _=>rfl,λ_ h=>.inl h⟩⟩;have hnl:=hsrc.newsLen;refine⟨_,_,_,σ++[⟨some ⟨w.drew.heap.size,0,none⟩,n2⟩],hrun,hq,?_,?_,?_,q5 hh' _ _,w9 hh' hg' _ _,λb _ hb=>Below.heap_alloc w.drew _ b hb,λi e ad he had _=>Below.heap_alloc w.drew _ _ (hh.lt i e ad he had)⟩
      ·simp only [Rep];refine⟨⟨some ⟨w.drew.heap.size,0,none⟩,n2⟩,by rw [<- hh.len]; simp,by simp,_,_,rfl,grownCap_ge w n2 0 e,.inr ⟨_,rfl,by simp,_,e,heap_alloc_new w.drew _,?_⟩⟩;simp only [Nat.zero_add];simp only [Array.size_append,List.size_toArray,List.nil_append,hnl,size_zeroCells,hzs];have hge:=grownCap_ge w n2 0 e;rw [<- bH];exact aT _ (by omega)
      ·have:=qt hh' (.cells (([]++news).toArray++Builtin.zeroCells z.cells (grownCap w n2 0 e - n2)) e) n2;exact⟨this.os,this.tape,this.output,this.size,this.keep,this.grow⟩
      ·simp only [zx,zk,qm,Nat.lt_irrefl,if_false];refine wv hh' ?_;simp only [BRep];refine⟨by trivial,.inr ⟨_,_,e,rfl,heap_alloc_new w.drew _,by simp [hnl],λj o hj ho=> ?_⟩⟩;obtain⟨c,h1,h2,h3⟩:=hnews j o hj ho;refine⟨c,?_,h2,zn (qt hh' _ _) _ _ (zn (w1:=w) (w2:=w.drew) (o1:=Own O σ) (o2:=Own O σ) ⟨rfl,rfl,rfl,aJ _,λ_ _ _=>rfl,λ_ h=>.inl h⟩ _ _ h3)⟩;have hlt:=(aG.1 h1).1;simp only [Nat.zero_add,List.nil_append];rw [Array.getElem?_append_left (by simpa using hlt)];simpa using h1
    ·
     rename_i n2 g2 b sz off n hsx;split at hq
     ·rename_i n' sz' g hb;split at hq
      ·rename_i hsz;obtain⟨rfl,hsz2⟩:=hsz;subst hsz2;obtain⟨hsd,hq⟩:=hq;have hQ:=hq hsd;clear hq;obtain⟨rfl,hnn,hroom⟩:=hsd;have hq:=hQ;obtain⟨news,hsrc,hnews⟩:=uy hh hu' hx hsx;have hs0:=hs;simp only [Rep] at hs;obtain⟨e0,he,hl,a,cap,rfl,hcap,hr⟩:=hs;obtain⟨hen,hblk⟩:=hh.blk b e0 _ he hb;have hbl:b<h.length:=by rw [<- hh.len]; exact(aG.1 he).1
       have hnl:=hsrc.newsLen;by_cases hroom2:n+n2<=cap
       ·by_cases hn2:n2=0
        ·
         subst hn2;have:news=[]:=by simpa using hnl
         subst this
         have hown':∀ k,Own O (σ.set b ⟨e0.ad,n⟩) k->Own O σ k:=by
          rintro k (hk | ⟨x,hx,ad,h1,h2⟩)
          ·exact .inl hk
          ·rcases List.mem_or_eq_of_mem_set hx with hx | rfl
           ·exact .inr ⟨x,hx,ad,h1,h2⟩
           ·exact .inr ⟨e0,aY he,ad,h1,h2⟩
         have hold:Hold [b] w σ w (σ.set b ⟨e0.ad,n⟩):=by
          intro j f hf hj;have hjb:b≠j:=λh=>hj (by simp [h])
          exact⟨by rw [bS hjb]; exact hf,λad _ cs el hcs=>⟨cs,el,hcs,rfl⟩⟩
         have hext:Ext (Own O σ) w (Own O (σ.set b ⟨e0.ad,n⟩)) w:=⟨rfl,rfl,rfl,aJ _,λ_ _ _=>rfl,λk hk=>.inl (hown' k hk)⟩;refine⟨_,_,w,σ.set b ⟨e0.ad,n⟩,kY hu hi hsrc cap n hcap,hq,?_,hext,?_,hold,?_,λ_ _ _=>rfl,λ_ _ _ _ _ _=>rfl⟩
         ·simp only [Rep];exact⟨⟨e0.ad,n⟩,by rw [List.getElem?_set_self (by rw [hh.len]; exact hbl)],by simp,a,cap,rfl,hcap,hr⟩
         ·simp only [zk];refine Q9 hh he hext hold (λ_ _ _ _ _ _=>rfl) (λj f a a' hj hf ha ha'=>hh.inj j b f e0 a a' hf he ha ha' hj) (λad had=>hh.lt b e0 ad he had) ?_;simp only [BRep];refine⟨rfl,?_⟩;rcases hblk with hz0 | ⟨ad,cs,el,had,hcs,hsz,hrb⟩
          ·exact .inl (by omega)
          ·have:(n+0)*i.size<=n'*i.size:=aT _ (by omega);refine .inr ⟨ad,cs,el,had,hcs,by omega,λj o hj ho=> ?_⟩;obtain⟨c,h1,h2,h3⟩:=hrb j o (by omega) ho;exact⟨c,h1,h2,by simp only [appG,aP (show j<n by omega)]; exact zn hext _ _ h3⟩
         ·refine⟨hg.old,λj f ad hf ha=> ?_,hg.stat.ext hext⟩;by_cases hjb:b=j
          ·subst hjb;rw [List.getElem?_set_self (by rw [hh.len]; exact hbl)] at hf;cases hf;exact hg.dis b e0 ad he ha
          ·rw [bS hjb] at hf;exact hg.dis j f ad hf ha
        ·
         rcases hr with hr | ⟨ad,had,rfl,cs,el,hcs,hsz⟩
         ·omega
         have hle:(n+n2)*i.size<=cap*i.size:=aT _ hroom2;simp only [Nat.zero_add,Nat.zero_mul,Nat.add_zero] at hsz;rw [bH] at hle;have hrun:=Jb (P:=P) (w:=w) (ty:=ty) (b:=ad.block) (o:=ad.off+0*i.size) (sLen:=n) (sCap:=cap) hu hi hsrc hroom2 hcs (by rw [hnl]; omega);simp only [Nat.zero_mul,Nat.add_zero] at hrun;generalize hnew:(cs.toList.take (ad.off+n*i.size)++news++cs.toList.drop (ad.off+n*i.size+news.length)).toArray=cs' at hrun;have hcs'sz:cs'.size=cs.size:=by rw [<- hnew]; simp [hnl]; omega
         have hrow:(w.setRow ad.block cs').heap[ad.block]?=some (.cells cs' el (0,0)):=setRow_heap w _ _ _ _ _ hcs;have ht:=xa w ad.block cs'
         have hszs:∀ c el2,w.heap[ad.block]?=some (.cells c el2 (0,0))->∃ c' el',(w.setRow ad.block cs').heap[ad.block]?=some (.cells c' el' (0,0))/\c'.size=c.size:=by
          intro c el2 h;rw [hcs] at h; cases h;exact⟨_,_,hrow,hcs'sz⟩
         have hown:Own O σ ad.block:=.inr ⟨e0,aY he,ad,had,rfl⟩
         have hown':∀ k,Own O (σ.set b ⟨some ad,n+n2⟩) k->Own O σ k:=by
          rintro k (hk | ⟨f,hf,a,ha,rfl⟩)
          ·exact .inl hk
          rcases List.mem_or_eq_of_mem_set hf with hf | rfl
          ·exact .inr ⟨f,hf,a,ha,rfl⟩
          ·cases ha; exact hown
         have hx0:=qM ht hown;have hext:Ext (Own O σ) w (Own O (σ.set b ⟨some ad,n+n2⟩)) (w.setRow ad.block cs'):=⟨hx0.os,hx0.tape,hx0.output,hx0.size,hx0.keep,λk hk=>hx0.grow k (hown' k hk)⟩
         have hold:Hold [b] w σ (w.setRow ad.block cs') (σ.set b ⟨some ad,n+n2⟩):=by
          intro j f hf hj;have hjb:b≠j:=λh=>hj (by simp [h])
          obtain⟨h1,h2⟩:=wX ht hszs j f hf (by simp);exact⟨by rw [bS hjb]; exact hf,h2⟩
         refine⟨_,_,w.setRow ad.block cs',σ.set b ⟨some ad,n+n2⟩,by simpa using hrun,hq,?_,hext,?_,hold,?_,λk hk _=>ht.other k (λh=>hg.dis b e0 ad he had (h▸hk)),λj f a hf ha hj=>ht.other _ (hh.inj j b f e0 a ad hf he ha had (by simpa using hj))⟩
         ·simp only [Rep];exact⟨⟨some ad,n+n2⟩,by rw [List.getElem?_set_self (by rw [hh.len]; exact hbl)],by simp,_,cap,rfl,hroom2,.inr ⟨ad,rfl,by simp,cs',el,hrow,by simp; omega⟩⟩
         ·simp only [zk];refine Q9 hh he hext hold (λj f a hj hf ha=>ht.other _ (hh.inj j b f e0 a ad hf he ha had hj)) (λj f a a' hj hf ha ha'=>by cases ha'; exact hh.inj j b f e0 a ad hf he ha had hj) (λa ha=>by cases ha; rw [ht.size]; exact hh.lt b e0 ad he had) ?_;simp only [BRep];refine⟨by trivial,.inr ⟨ad,cs',el,rfl,hrow,by rw [hcs'sz,bH]; omega,λj o hj ho=> ?_⟩⟩
          have hpos:∀ p:Nat,cs'[p]?=if ad.off+n*i.size<=p/\p<ad.off+n*i.size+news.length then news[p - (ad.off+n*i.size)]? else cs[p]?:=by
           intro p;rw [<- hnew];simp only [List.getElem?_toArray,bT,bO,aH,Array.length_toList];have hmin:min (ad.off+n*i.size) cs.size=ad.off+n*i.size:=by omega
           rw [hmin];by_cases c1:p<ad.off+n*i.size
           ·rw [aP (by omega),aP c1,aO (by omega),bR,aP c1,Array.getElem?_toList]
           ·by_cases c2:p<ad.off+n*i.size+news.length
            ·rw [aP c2,aO c1,aP ⟨by omega,c2⟩]
            ·rw [aO c2,aO (by omega),List.getElem?_drop,Array.getElem?_toList];congr 1; omega
          by_cases hjn:j<n
          ·have hj1:j*i.size+o<n*i.size:=by
            have:(j+1)*i.size<=n*i.size:=aT _ (by omega);rw [Nat.succ_mul] at this; omega
           rcases hblk with hz0 | ⟨ad2,cs2,el2,had2,hcs2,hsz2,hrb⟩
           ·omega
           rw [had] at had2; cases had2;rw [hcs] at hcs2; cases hcs2;obtain⟨c,h1,h2,h3⟩:=hrb j o (by omega) ho;refine⟨c,by rw [hpos,aO (by omega)]; exact h1,h2,?_⟩;simp only [appG,aP hjn];exact zn hext _ _ h3
          ·obtain⟨c,h1,h2,h3⟩:=hnews (j - n) o (by omega) ho;have hlt:=(aG.1 h1).1;have e1:j*i.size=n*i.size+(j - n)*i.size:=by rw [<- bH]; congr 1; omega
           refine⟨c,?_,h2,?_⟩
           ·rw [hpos,aP ⟨by omega,by omega⟩];rw [<- h1]; congr 1; omega
           ·simp only [appG,aO hjn];exact zn hext _ _ h3
         ·refine⟨λk hk=>by rw [ht.size]; exact hg.old k hk,λj f a hf ha=> ?_,hg.stat.ext hext⟩;rcases List.mem_or_eq_of_mem_set (aY hf) with hf' | rfl
          ·obtain⟨j',hj'⟩:=List.mem_iff_getElem?.1 hf';exact hg.dis j' f a hj' ha
          ·cases ha; exact hg.dis b e0 ad he had
       ·
        obtain⟨olds,hsold,hold0⟩:=uy (tx:=t) (sz:=i.size) (n:=n) (g:=zf g 0) hh hu hs0 (by simp [Vj,jI,hb]);have hol:=hsold.newsLen;have hlen:=hroomlen _ hroom;have hcl:(Builtin.firstCells i.size n (.slice a n cap)).run P w.drew = .ok olds.toArray w.drew:=hsold.cellsD;have hrun:=run_append_grow_src (P:=P) w t tx e (ty:=ty) i z hu hi hz a n cap olds hcl vx n2 news hsrc (by omega) (by omega) (growslice_fits (by omega) (by simpa [jx] using hroom));have hh':=Jq hh;have hg':Good O w.drew σ:=⟨hg.old,hg.dis,hg.stat.ext ⟨rfl,rfl,rfl,aJ _,λ_ _ _=>rfl,λ_ h=>.inl h⟩⟩;generalize hW:(Obj.cells ((olds++news).toArray++Builtin.zeroCells z.cells (grownCap w (n+n2) cap e - (n+n2))) e)=ob at hrun;have hx0:=qt hh' ob (n+n2)
        have hown':∀ k,Own O (σ.set b ⟨some ⟨w.heap.size,0,none⟩,n+n2⟩) k->Own O σ k\/w.heap.size<=k:=by
         rintro k (hk | ⟨f,hf,a,ha,rfl⟩)
         ·exact .inl (.inl hk)
         rcases List.mem_or_eq_of_mem_set hf with hf | rfl
         ·exact .inl (.inr ⟨f,hf,a,ha,rfl⟩)
         ·cases ha; exact .inr (aJ _)
        have hext:Ext (Own O σ) w (Own O (σ.set b ⟨some ⟨w.heap.size,0,none⟩,n+n2⟩)) (w.drew.alloc ob):=⟨hx0.os,hx0.tape,hx0.output,hx0.size,hx0.keep,hown'⟩
        have hold:Hold [b] w σ (w.drew.alloc ob) (σ.set b ⟨some ⟨w.heap.size,0,none⟩,n+n2⟩):=by
         intro j f hf hj;have hjb:b≠j:=λh=>hj (by simp [h])
         obtain⟨h1,h2⟩:=q5 hh' ob ⟨none,0⟩ j f hf (by simp);exact⟨by rw [bS hjb]; exact hf,h2⟩
        have hlast:(w.drew.alloc ob).heap[w.heap.size]?=some ob:=heap_alloc_new w.drew ob;have hge:=grownCap_ge w (n+n2) cap e;refine⟨_,_,w.drew.alloc ob,σ.set b ⟨some ⟨w.heap.size,0,none⟩,n+n2⟩,hrun,hq,?_,hext,?_,hold,?_,λk _ hk=>Below.heap_alloc w.drew _ k hk,λi e ad he had _=>Below.heap_alloc w.drew _ _ (hh.lt i e ad he had)⟩
        ·simp only [Rep];refine⟨⟨some ⟨w.heap.size,0,none⟩,n+n2⟩,by rw [List.getElem?_set_self (by rw [hh.len]; exact hbl)],by simp,_,_,rfl,hge,.inr ⟨⟨w.heap.size,0,none⟩,rfl,by simp,_,e,by rw [hlast,<- hW],?_⟩⟩;simp only [Nat.zero_add,Array.size_append,List.size_toArray,bO,hol,hnl,size_zeroCells,hzs];rw [<- bH,<- bH];exact aT _ (by omega)
        ·simp only [zk];refine Q9 hh he hext hold (λj f a hj hf ha=>Below.heap_alloc w.drew ob _ (hh.lt j f a hf ha)) (λj f a a' hj hf ha ha'=>by cases ha'; exact Nat.ne_of_lt (hh.lt j f a hf ha)) (λa ha=>by cases ha; simp) ?_;simp only [BRep];refine⟨by trivial,.inr ⟨⟨w.heap.size,0,none⟩,_,e,rfl,by rw [hlast,<- hW],by simp [hol,hnl,<- bH,bH],λj o hj ho=> ?_⟩⟩;have hd:Ext (Own O σ) w (Own O σ) w.drew:=⟨rfl,rfl,rfl,aJ _,λ_ _ _=>rfl,λ_ h=>.inl h⟩;by_cases hjn:j<n
         ·obtain⟨c,h1,h2,h3⟩:=hold0 j o hjn ho;have hlt:=(aG.1 h1).1;refine⟨c,?_,h2,?_⟩
          ·simp only [Nat.zero_add];rw [Array.getElem?_append_left (by simp; omega)];simp only [List.getElem?_toArray];rw [bL hlt]; exact h1
          ·simp only [appG,aP hjn];simp only [zf,Nat.zero_add] at h3;exact zn hext _ _ h3
         ·obtain⟨c,h1,h2,h3⟩:=hnews (j - n) o (by omega) ho;have hlt:=(aG.1 h1).1;have e1:j*i.size=n*i.size+(j - n)*i.size:=by rw [<- bH]; congr 1; omega
          refine⟨c,?_,h2,?_⟩
          ·simp only [Nat.zero_add];rw [Array.getElem?_append_left (by simp; omega)];simp only [List.getElem?_toArray];rw [List.getElem?_append_right (by omega),<- h1]; congr 1; omega
          ·simp only [appG,aO hjn];exact zn hext _ _ h3
        ·refine⟨λk hk=>by have:=hg.old k hk; simp; omega,λj f a hf ha=> ?_,hg.stat.ext hext⟩;rcases List.mem_or_eq_of_mem_set (aY hf) with hf' | rfl
         ·obtain⟨j',hj'⟩:=List.mem_iff_getElem?.1 hf';exact hg.dis j' f a hj' ha
         ·cases ha;intro hO;have:=hg.old _ hO;simp at this
      ·exact hq.elim
     ·exact hq.elim
    ·exact hq.elim
  ·exact hq.elim
 ·exact hq.elim
end
end Go.Sx
end
section
namespace Go.Sx
variable [Stat]
open Go.RowKit (Below)
def yQ(P:Program)(g:Nat)(vals:Array Value)(w:World)(R:Value->World->Prop):Prop:=
 ((callFunc g vals).run P w = .ok (.enter g vals) w/\Calls P g vals w λe w'=>∃ v,e = .returned v/\R v w') \/
 ∃ v w',(callFunc g vals).run P w = .ok (.value v) w'/\R v w'
def wo(Xp:List PanicEntry->Prop)(D:World->Prop)(P:Program)(g:Nat)(vals:Array Value)(w:World)(R:Value->World->Prop):Prop:=
 ((callFunc g vals).run P w = .ok (.enter g vals) w/\Calls P g vals w λe w'=>(∃ v,e = .returned v/\R v w')\/∃ ch,e = .panicked ch/\Xp ch/\D w') \/
 ∃ v w',(callFunc g vals).run P w = .ok (.value v) w'/\R v w'
def Mine(σ:List SE)(b:Nat):Prop:=∃ e∈σ,∃ ad,e.ad=some ad/\ad.block=b
def Died(σ:List SE)(w w':World):Prop:=Ext (Mine σ) w (λ_=>False) w'
def jy(P:Program)(g:Nat)(c:Ctr)(args:List AV)(hc:Heap)(Q:AV×Heap->Prop):Prop:=
 ∀ (O:Nat->Prop) (w:World) (σ:List SE) (vals:List Value),Good O w σ->HRep (Own O σ) w σ hc->RepL (Own O σ) w args σ vals ->
  yQ P g vals.toArray w λv w'=>∃ r hs Z',Q (r,hs)/\Rep (λb=>Own O Z' b\/(c.fresh=true/\b<w.heap.size)) w' r Z' v /\
   HRep (λb=>Own O Z' b\/(c.fresh=true/\b<w.heap.size)) w' Z' hs/\Good O w' Z'/\hc.length<=hs.length/\Hold (if c.wS=true then(List.range hc.length).drop c.pins else []) w σ w' Z'/\Ext (Mine σ) w (Mine Z') w'
def zc(P:Program)(g:Nat)(c:Ctr):Prop:=∀ (args:List AV) (hc:Heap) (Q:AV×Heap->Prop),(c.spec args hc).holds Q->(c.fresh=true->hc=[])->jy P g c args hc Q
def uj(Xp:List PanicEntry->Prop)(P:Program)(g:Nat)(c:Ctr)(args:List AV)(hc:Heap)(Q:AV×Heap->Prop):Prop:=
 ∀ (O:Nat->Prop) (w:World) (σ:List SE) (vals:List Value),Good O w σ->HRep (Own O σ) w σ hc->RepL (Own O σ) w args σ vals ->
  wo Xp (Died σ w) P g vals.toArray w λv w'=>∃ r hs Z',Q (r,hs)/\Rep (λb=>Own O Z' b\/(c.fresh=true/\b<w.heap.size)) w' r Z' v /\
   HRep (λb=>Own O Z' b\/(c.fresh=true/\b<w.heap.size)) w' Z' hs/\Good O w' Z'/\hc.length<=hs.length/\Hold (if c.wS=true then(List.range hc.length).drop c.pins else []) w σ w' Z'/\Ext (Mine σ) w (Mine Z') w'
def j2(Xp:List PanicEntry->Prop)(P:Program)(g:Nat)(c:Ctr):Prop:=∀ (args:List AV) (hc:Heap) (Q:AV×Heap->Prop),(c.spec args hc).holds Q->(c.fresh=true->hc=[])->uj Xp P g c args hc Q
theorem yQ.x{Xp:List PanicEntry->Prop}{D:World->Prop}{P:Program}{g:Nat}{vals:Array Value}{w:World}{R:Value->World->Prop}(h:yQ P g vals w R):wo Xp D P g vals w R:=
 h.imp (λh=>⟨h.1,h.2.mono λe w' h=>.inl h⟩) id
theorem wo.plain{D:World->Prop}{P:Program}{g:Nat}{vals:Array Value}{w:World}{R:Value->World->Prop}(h:wo (λ_=>False) D P g vals w R):yQ P g vals w R:=
 h.imp (λh=>⟨h.1,h.2.mono λe w' h=>h.elim id λ⟨_,_,h,_⟩=>h.elim⟩) id
theorem uj.plain{P:Program}{g:Nat}{c:Ctr}{args:List AV}{hc:Heap}{Q:AV×Heap->Prop}(h:uj (λ_=>False) P g c args hc Q):jy P g c args hc Q:=
 λO w σ vals a b d=>(h O w σ vals a b d).plain
theorem zc.x{Xp:List PanicEntry->Prop}{P:Program}{g:Nat}{c:Ctr}(h:zc P g c):j2 Xp P g c:=
 λargs hc Q a b O w σ vals d e f=>(h args hc Q a b O w σ vals d e f).x
theorem Died.mono{σ Z':List SE}{w w':World}(hs:∀ b,Mine Z' b->Mine σ b)(h:Died Z' w w'):Died σ w w':=
 ⟨h.os,h.tape,h.output,h.size,λb hb hn=>h.keep b hb λhm=>hn (hs b hm),λb hb=>hb.elim⟩
def mrg{α:Type} : List α->List Nat->List α->List α
 | h,[],hs=>h++hs
 | h,i::L,b::hs=>mrg (h.set i b) L hs
 | h,_::_,[]=>h
theorem kz:∀ {L:List Nat} {i j:Nat},z4 L i=some j->L[j]?=some i
 | [],i,j,h=>by simp [z4] at h
 | x::L,i,j,h=>by
  simp only [z4] at h;split at h
  ·rename_i hx; cases h; simp [hx]
  ·cases hp:z4 L i with
   | none=>simp [hp] at h
   | some k=>
    simp only [hp,Option.map_some,aE] at h;subst h;simpa using kz hp
theorem q6:∀ {L:List Nat} {i:Nat},z4 L i=none↔i∉L
 | [],i=>by simp [z4]
 | x::L,i=>by
  simp only [z4,aM,not_or];split
  ·rename_i hx; simp [hx]
  ·rename_i hx;rw [Option.map_eq_none_iff,q6];constructor
   ·exactλh=>⟨λe=>hx e.symm,h⟩
   ·exactλh=>h.2
theorem vA:∀ {L:List Nat} {i j:Nat},w8 L=true->L[j]?=some i->z4 L i=some j
 | [],i,j,_,h=>by simp at h
 | x::L,i,0,_,h=>by simp at h; simp [z4,h]
 | x::L,i,j+1,hn,h=>by
  simp only [w8,bA,Bool.not_eq_true',bX,aV] at hn;simp only [List.getElem?_cons_succ] at h;have hne:x≠i:=λe=>hn.1 (e▸aY h)
  simp [z4,hne,vA hn.2 h]
theorem Zl{α:Type} : ∀ {L:List Nat} {h hs:List α},(∀ i∈L,i<h.length)->w8 L=true->L.length<=hs.length->∀ k,(mrg h L hs)[k]?=match z4 L k with
  | some j=>hs[j]?
  | none=>if k<h.length then h[k]? else hs[L.length+(k - h.length)]?
 | [],h,hs,_,_,_,k=>by
  simp only [mrg,z4,List.length_nil,Nat.zero_add,bT]
 | i::L,h,[],_,_,hl,k=>by simp at hl
 | i::L,h,b::hs,hL,hn,hl,k=>by
  simp only [w8,bA,Bool.not_eq_true',bX,aV] at hn;simp only [mrg];rw [Zl (λj hj=>by simpa using hL j (by simp [hj])) hn.2 (by simpa using hl)];simp only [z4];by_cases hik:i=k
  ·subst hik;rw [q6.2 hn.1];have:=hL i (by simp);simp [this]
  ·rw [aO hik];cases hp:z4 L k with
   | some j=>simp
   | none=>
    simp only [Option.map_none,List.length_set,aL];rw [bS hik];split
    ·rfl
    ·rw [show L.length+1+(k - h.length)=(L.length+(k - h.length))+1 by omega,List.getElem?_cons_succ]
theorem yd{α:Type} : ∀ {L:List Nat} {h hs:List α},L.length<=hs.length->(mrg h L hs).length=h.length+(hs.length - L.length)
 | [],h,hs,_=>by simp [mrg]
 | i::L,h,[],hl=>by simp at hl
 | i::L,h,b::hs,hl=>by
  simp only [mrg];rw [yd (by simpa using hl)];simp
theorem WQ:∀ {L:List Nat} {h hs:Heap},(∀ i∈L,i<h.length)->L.length<=hs.length->zk h (wR L h.length hs)=mrg h L hs
 | [],h,[],_,_=>by simp [wR,zk,mrg]
 | [],h,b::hs,hL,_=>by
  simp only [wR,zk,qm,Nat.lt_irrefl,if_false,mrg];have:=WQ (L:=[]) (h:=h++[b]) (hs:=hs) (by simp) (by simp);simp only [bO,aL,List.length_nil,Nat.zero_add,mrg] at this;rw [this]; simp
 | i::L,h,[],_,hl=>by simp at hl
 | i::L,h,b::hs,hL,hl=>by
  simp only [wR,zk,qm,aP (hL i (by simp)),mrg];have:=WQ (L:=L) (h:=h.set i b) (hs:=hs) (λj hj=>by simpa using hL j (by simp [hj])) (by simpa using hl);simpa using this
theorem QH:∀ {L:List Nat} {d:Nat} {hs:List Blk},L.length<=hs.length->∀ i∈L,i∈(wR L d hs).map (·.1)
 | [],d,hs,_,i,h=>by cases h
 | x::L,d,[],hl,i,h=>by simp at hl
 | x::L,d,b::hs,hl,i,h=>by
  simp only [wR,List.map_cons,aM];rcases aM.1 h with rfl | h
  ·exact .inl rfl
  ·exact .inr (QH (by simpa using hl) i h)
section
variable {O:Nat->Prop} {w:World} {σ:List SE} {P:Program} {Xp:List PanicEntry->Prop}
theorem y9{h:Heap}(hg:Good O w σ)(hh:HRep (Own O σ) w σ h){a a':AV}{v:Value}{k K:List Nat}(ha:Rep (Own O σ) w a σ v)(hf:frz h a=some (a',k))(hk:∀ i∈k,i∈K):Rep (Own O (frzS K σ)) w a' [] v:=by
 cases a with
 | agg cs=>
  simp only [frz] at hf;split at hf
  ·rename_i cs' k' hf';simp only [aE,bE] at hf;obtain⟨rfl,rfl⟩:=hf;simp only [Rep] at ha ⊢;obtain⟨vs,hv,hr⟩:=ha;exact⟨vs,hv,(ve hg hh hr hf' hk).1⟩
  ·cases hf
 | tup cs=>
  simp only [frz] at hf;split at hf
  ·rename_i cs' k' hf';simp only [aE,bE] at hf;obtain⟨rfl,rfl⟩:=hf;simp only [Rep] at ha ⊢;obtain⟨vs,hv,hr⟩:=ha;exact⟨vs,hv,(ve hg hh hr hf' hk).1⟩
  ·cases hf
 | _=>exact(yf hg hh ha (by simpa only [frz] using hf) hk).1
theorem xJ{h:Heap}(hg:Good O w σ)(hh:HRep (Own O σ) w σ h){K:List Nat} : ∀ {as:List AV} {l:List (AV×List Nat)} {vs:List Value},RepL (Own O σ) w as σ vs->as.mapM (λa=>frz h a)=some l->(∀ p∈l,∀ i∈p.2,i∈K) ->
  RepL (Own O (frzS K σ)) w (l.map (·.1)) [] vs
 | [],l,vs,hr,hl,hk=>by
  simp at hl; subst hl;simpa [RepL] using hr
 | a::as,l,vs,hr,hl,hk=>by
  simp only [List.mapM_cons,Option.bind_eq_bind,Option.bind_eq_some_iff,Option.pure_def,aE] at hl;obtain⟨p,hp,q,hq,rfl⟩:=hl;simp only [RepL] at hr ⊢;obtain⟨v,r,rfl,h1,h2⟩:=hr;exact⟨v,r,rfl,y9 hg hh h1 (by simpa using hp) (λi hi=>hk p (by simp) i hi),xJ hg hh h2 hq (λx hx=>hk x (by simp [hx]))⟩
theorem wC{own own':Nat->Prop}{w:World}{a:AV}{v:Value}{σ:List SE}(h:∀ b,own' b->own b)(hr:Rep own w a σ v):Rep own' w a σ v:=
 qi (K:=[]) (w2:=w) ⟨rfl,rfl,rfl,aJ _,λ_ _ _=>rfl,λb hb=>.inl (h b hb)⟩ (Hold.refl [] w σ) a v (j6 a) hr
theorem w6{own:Nat->Prop}{w:World}{E1 E2:List SE}{f:Nat->Option Nat}(hf:∀ i j,f i=some j->E2[j]?=E1[i]?){a:AV}{v:Value}(h:Rep own w a E1 v):Rep own w (ren0 f a) E2 v:=by
 cases a with
 | osl i sz off n=>
  simp only [ren0];split
  ·rename_i j hj;simp only [Rep] at h ⊢;rw [hf i j hj]; exact h
  ·simp [Rep]
 | ptr i off=>
  simp only [ren0];split
  ·rename_i j hj;simp only [Rep] at h ⊢;rw [hf i j hj]; exact h
  ·simp [Rep]
 | eptr i sz idx off=>
  simp only [ren0];split
  ·rename_i j hj;simp only [Rep] at h ⊢;rw [hf i j hj]; exact h
  ·simp [Rep]
 | omap i=>
  simp only [ren0];split
  ·rename_i j hj;simp only [Rep] at h ⊢;rw [hf i j hj]; exact h
  ·simp [Rep]
 | fn g a b=>
  simp only [ren0];split
  ·simp only [Rep,RepL] at h ⊢; exact h
  ·simp [Rep]
 | agg _=>simp [ren0,Rep]
 | tup _=>simp [ren0,Rep]
 | opt _ _ _=>simp [ren0,Rep]
 | undef=>simp [ren0,Rep]
 | sl n sz g=>exact Rep.any (a:=.sl n sz g) (by simpa only [Rep] using h) _
 | iptr n g=>exact Rep.any (a:=.iptr n g) (by simpa only [Rep] using h) _
 | bot=>simp only [Rep] at h
 | _=>simp only [ren0,Rep] at h ⊢; exact h
theorem RepL.map2{own:Nat->Prop}{w:World}{E1 E2:List SE}{f:AV->AV}(hf:∀ a v,Rep own w a E1 v->Rep own w (f a) E2 v){l:List AV}{vs:List Value}(h:RepL own w l E1 vs):RepL own w (l.map f) E2 vs:=by
 refine zt.2 ⟨by simp [h.length],λi x u hx hu=> ?_⟩;simp only [aN] at hx;cases hl:l[i]? with
 | none=>simp [hl] at hx
 | some y=>
  simp only [hl,Option.map_some,aE] at hx;subst hx;exact hf y u ((zt.1 h).2 i y u hl hu)
theorem v8{own:Nat->Prop}{w:World}{E1 E2:List SE}{f:Nat->Option Nat}(hf:∀ i j,f i=some j->E2[j]?=E1[i]?){a:AV}{v:Value}(h:Rep own w a E1 v):Rep own w (ren1 f a) E2 v:=by
 cases a with
 | agg cs=>
  simp only [ren1,Rep] at h ⊢;obtain⟨vs,hv,hr⟩:=h;exact⟨vs,hv,hr.map2 λa v=>w6 hf⟩
 | fn g a b=>
  simp only [ren1,Rep] at h ⊢;obtain⟨va,vb,hv,h1,h2⟩:=h;exact⟨va,vb,hv,h1.map2 λa v=>w6 hf,h2.map2 λa v=>w6 hf⟩
 | _=>simp only [ren1]; exact w6 hf h
theorem Qv{own:Nat->Prop}{w:World}{E1 E2:List SE}{f:Nat->Option Nat}(hf:∀ i j,f i=some j->E2[j]?=E1[i]?){a:AV}{v:Value}(h:Rep own w a E1 v):Rep own w (ren2 f a) E2 v:=by
 cases a with
 | tup cs=>
  simp only [ren2,Rep] at h ⊢;obtain⟨vs,hv,hr⟩:=h;exact⟨vs,hv,hr.map2 λa v=>v8 hf⟩
 | fn g a b=>
  simp only [ren2,Rep] at h ⊢;obtain⟨va,vb,hv,h1,h2⟩:=h;exact⟨va,vb,hv,h1.map2 λa v=>v8 hf,h2.map2 λa v=>v8 hf⟩
 | _=>simp only [ren2]; exact v8 hf h
theorem yj{own:Nat->Prop}{w:World}{E1 E2:List SE}{f:Nat->Option Nat}(hf:∀ i j,f i=some j->E2[j]?=E1[i]?){e:SE}{b:Blk}(h:BRep own w E1 e b):BRep own w E2 e (renB f b):=by
 cases b with
 | dead=>trivial
 | box cs=>
  simp only [renB,BRep] at h ⊢;obtain⟨ad,vs,el,h1,h2,h3,h4⟩:=h;exact⟨ad,vs,el,h1,h2,h3,h4.map2 λa v=>v8 hf⟩
 | arr n sz g=>exact h
 | arrI _ n _=>exact h
 | arrS n _=>exact h
 | map ag sh has get pe=>simp only [renB,BRep] at h ⊢; exact h
theorem Q5{own own':Nat->Prop}{w:World}{σ:List SE}{e:SE}{b:Blk}(ho:∀ k,own' k->own k)(h:BRep own w σ e b):BRep own' w σ e b:=by
 cases b with
 | dead=>trivial
 | box cs=>
  simp only [BRep] at h ⊢;obtain⟨ad,vs,el,h1,h2,h3,h4⟩:=h;refine⟨ad,vs,el,h1,h2,h3,zt.2 ⟨h4.length,λi x u hx hu=>wC ho ((zt.1 h4).2 i x u hx hu)⟩⟩
 | arr n sz g=>
  simp only [BRep] at h ⊢;obtain⟨h1,h2 | ⟨ad,cs,el,h3,h4,h5,h6⟩⟩:=h
  ·exact⟨h1,.inl h2⟩
  ·refine⟨h1,.inr ⟨ad,cs,el,h3,h4,h5,λj o hj ho'=> ?_⟩⟩;obtain⟨c,h7,h8,h9⟩:=h6 j o hj ho';exact⟨c,h7,h8,wC ho h9⟩
 | arrI _ n _=>
  simp only [BRep] at h ⊢;obtain⟨h1,h2 | ⟨ad,cs,el,h3,h4,h5,h6⟩⟩:=h
  ·exact⟨h1,.inl h2⟩
  ·refine⟨h1,.inr ⟨ad,cs,el,h3,h4,h5,λj o hj ho'=> ?_⟩⟩;obtain⟨c,h7,h8,h9⟩:=h6 j o hj ho';exact⟨c,h7,h8,wC ho h9⟩
 | arrS n _=>
  simp only [BRep] at h ⊢;obtain⟨h1,h2 | ⟨ad,cs,el,h3,h4,h5,h6⟩⟩:=h
  ·exact⟨h1,.inl h2⟩
  ·refine⟨h1,.inr ⟨ad,cs,el,h3,h4,h5,λj o hj ho'=> ?_⟩⟩;obtain⟨c,h7,h8,h9⟩:=h6 j o hj ho';exact⟨c,h7,h8,wC ho h9⟩
 | map ag sh has get pe=>
  simp only [BRep] at h ⊢;obtain⟨ad,es,clock,l,h1,h2,h3,h4,h5,h6⟩:=h;exact⟨ad,es,clock,l,h1,h2,h3,h4,h5,h6.ext ⟨rfl,rfl,rfl,aJ _,λ_ _ _=>rfl,λb hb=>.inl (ho b hb)⟩⟩
theorem zw{b:Nat} : Mine σ b↔∃ (i:Nat) (e:SE) (ad:Addr),σ[i]?=some e/\e.ad=some ad/\ad.block=b:=by
 constructor
 ·rintro⟨e,he,ad,h1,h2⟩;obtain⟨i,hi⟩:=List.mem_iff_getElem?.1 he;exact⟨i,e,ad,hi,h1,h2⟩
 ·rintro⟨i,e,ad,hi,h1,h2⟩;exact⟨e,aY hi,ad,h1,h2⟩
theorem ZG{h:Heap}(hg:Good O w σ)(hh:HRep (Own O σ) w σ h){L:List Nat}(hL:∀ i∈L,i<h.length)(hn:w8 L=true){Ec Z':List SE}(hZc:∀ j:Nat,Ec[j]?=(L[j]?).bind λi=>σ[i]?)
  {own':Nat->Prop} {w':World} {r:AV} {v:Value} {hs:Heap} {Kc K:List Nat} (hown:∀ b,Own O (mrg σ L Z') b->own' b) (hR:Rep own' w' r Z' v) (hH:HRep own' w' Z' hs) (hlen:L.length<=hs.length)
  (hE:Ext (Mine Ec) w (Mine Z') w') (hG:Good O w' Z') (hhold:Hold Kc w Ec w' Z') (hK:(∀ i∈K,i∈L)/\∀ (j i:Nat),L[j]?=some i->i∉K->j∉Kc) :
  Post O w σ h ⟨ren2 (wP L h.length) r,wR L h.length (hs.map (renB (wP L h.length))),K⟩ v w' (mrg σ L Z'):=by
 have hl':L.length<=Z'.length:=by rw [hH.len]; exact hlen
 have hLZ:∀ i∈L,i<σ.length:=by rw [hh.len]; exact hL
 have hget:=Zl (h:=σ) (hs:=Z') hLZ hn hl'
 have hback:∀ i j,wP L h.length i=some j->(mrg σ L Z')[j]?=Z'[i]?:=by
  intro i j hb;simp only [wP] at hb;rw [hget];split at hb
  ·rw [vA hn hb]
  ·rename_i hi;cases hb;have:z4 L (h.length+(i - L.length))=none:=q6.2 λhm=>by have:=hL _ hm; omega
   rw [this];simp only [hh.len];rw [aO (by omega)];congr 1; omega
 have hcases:∀ (k:Nat) (e:SE),(mrg σ L Z')[k]?=some e->(∃ j,Z'[j]?=some e/\(L[j]?=some k\/(L.length<=j/\h.length<=k/\k=h.length+(j - L.length))))\/(k∉L/\σ[k]?=some e):=by
  intro k e he;rw [hget] at he;split at he
  ·rename_i j hj;exact .inl ⟨j,he,.inl (kz hj)⟩
  ·rename_i hj;split at he
   ·exact .inr ⟨q6.1 hj,he⟩
   ·rename_i hlt;rw [hh.len] at he hlt;exact .inl ⟨_,he,.inr ⟨by omega,by omega,by omega⟩⟩
 have hminec:∀ b,Mine Ec b->∃ (i:Nat) (e:SE) (ad:Addr),i∈L/\σ[i]?=some e/\e.ad=some ad/\ad.block=b:=by
  intro b hb;obtain⟨j,e,ad,h1,h2,h3⟩:=zw.1 hb;rw [hZc] at h1;cases hLj:L[j]? with
  | none=>simp [hLj] at h1
  | some i=>simp only [hLj,Option.bind_some] at h1; exact⟨i,e,ad,aY hLj,h1,h2,h3⟩
 have hapart:∀ (k:Nat) (e:SE) (ad:Addr),k∉L->σ[k]?=some e->e.ad=some ad->¬ Mine Ec ad.block:=by
  intro k e ad hk he had hm;obtain⟨i,f,ad',hi,hf,ha,hb⟩:=hminec _ hm;exact hh.inj i k f e ad' ad hf he ha had (λe=>hk (e▸hi)) hb
 have hnew:∀ (j:Nat) (f:SE) (a:Addr),Z'[j]?=some f->f.ad=some a->Mine Ec a.block\/w.heap.size<=a.block:=λj f a hf ha=>hE.grow _ (zw.2 ⟨j,f,a,hf,ha,rfl⟩)
 have hkeep:∀ (k:Nat) (e:SE) (ad:Addr),k∉L->σ[k]?=some e->e.ad=some ad->w'.heap[ad.block]?=w.heap[ad.block]?:=λk e ad hk he had=>
  hE.keep _ (hh.lt k e ad he had) (hapart k e ad hk he had)
 have hOc:∀ b,O b->¬ Mine Ec b:=by
  intro b hb hm;obtain⟨i,e,ad,_,h1,h2,rfl⟩:=hminec b hm;exact hg.dis i e ad h1 h2 hb
 have hext:Ext (Own O σ) w (Own O (mrg σ L Z')) w':=by
  refine⟨hE.os,hE.tape,hE.output,hE.size,λb hb hno=>hE.keep b hb (λhm=>hno ?_),?_⟩
  ·obtain⟨i,e,ad,_,h1,h2,h3⟩:=hminec b hm;exact .inr (zw.2 ⟨i,e,ad,h1,h2,h3⟩)
  ·rintro b (hb | hb)
   ·exact .inl (.inl hb)
   ·obtain⟨k,e,ad,h1,h2,h3⟩:=zw.1 hb;rcases hcases k e h1 with ⟨j,hj,_⟩ | ⟨_,hk⟩
    ·rcases hnew j e ad hj h2 with hm | hm
     ·obtain⟨i,f,ad',_,h4,h5,h6⟩:=hminec _ hm;exact .inl (.inr (zw.2 ⟨i,f,ad',h4,h5,h6.trans h3⟩))
     ·exact .inr (h3▸hm)
    ·exact .inl (.inr (zw.2 ⟨k,e,ad,hk,h2,h3⟩))
 have hold:Hold K w σ w' (mrg σ L Z'):=by
  intro i e he hi;have hlt:=(aG.1 he).1;by_cases hiL:i∈L
  ·obtain⟨j,hj⟩:=List.mem_iff_getElem?.1 hiL;have hc:Ec[j]?=some e:=by rw [hZc,hj]; exact he
   obtain⟨h1,h2⟩:=hhold j e hc (hK.2 j i hj hi);refine⟨?_,h2⟩;rw [hget,vA hn hj]; exact h1
  ·refine⟨?_,λad had cs el hcs=>⟨cs,el,?_,rfl⟩⟩
   ·rw [hget,q6.2 hiL];simp only [hlt,if_true]; exact he
   ·rw [hkeep i e ad hiL he had]; exact hcs
 have hrlen:L.length<=(hs.map (renB (wP L h.length))).length:=by simpa using hlen
 refine⟨wC hown (Qv hback hR),hext,?_,hold,?_,λb hb hlt=>hE.keep b hlt (hOc b hb),?_⟩
 ·have hkl:(zx K h).length=h.length:=by simp [zJ]
  have heq:zk (zx K h) (wR L h.length (hs.map (renB (wP L h.length))))=mrg (zx K h) L (hs.map (renB (wP L h.length))):=by
   rw [<- hkl];exact WQ (λi hi=>by rw [hkl]; exact hL i hi) (by simpa using hlen)
  simp only;rw [heq];have hgetB:=Zl (h:=zx K h) (hs:=hs.map (renB (wP L h.length))) (λi hi=>by rw [hkl]; exact hL i hi) hn hrlen;refine⟨?_,?_,?_,?_⟩
  ·rw [yd hl',yd hrlen,hkl,hh.len]; simp [hH.len]
  ·intro i j e f a b he hf ha hb hij;rcases hcases i e he with ⟨i',hi',hi2⟩ | ⟨hiL,hi⟩<;>rcases hcases j f hf with ⟨j',hj',hj2⟩ | ⟨hjL,hj⟩
   ·refine hH.inj i' j' e f a b hi' hj' ha hb ?_;rintro rfl;apply hij;rcases hi2 with h1 | ⟨h1,h2,h3⟩<;>rcases hj2 with h4 | ⟨h4,h5,h6⟩
    ·rw [h1] at h4; cases h4; rfl
    ·have:=(aG.1 h1).1; omega
    ·have:=(aG.1 h4).1; omega
    ·omega
   ·rcases hnew i' e a hi' ha with hm | hm
    ·exactλe=>hapart j f b hjL hj hb (e▸hm)
    ·have:=hh.lt j f b hj hb; omega
   ·rcases hnew j' f b hj' hb with hm | hm
    ·exactλe'=>hapart i e a hiL hi ha (e'▸hm)
    ·have:=hh.lt i e a hi ha; omega
   ·exact hh.inj i j e f a b hi hj ha hb hij
  ·intro i e a he ha;rcases hcases i e he with ⟨i',hi',_⟩ | ⟨_,hi⟩
   ·exact hH.lt i' e a hi' ha
   ·exact bB (hh.lt i e a hi ha) hE.size
  ·intro i e b he hb;rw [hgetB] at hb;rw [hget] at he;cases hp:z4 L i with
   | some j=>
    simp only [hp,aN] at he hb;cases hsj:hs[j]? with
    | none=>simp [hsj] at hb
    | some b0=>
     simp only [hsj,Option.map_some,aE] at hb;subst hb;exact Q5 hown (yj hback (hH.blk j e b0 he hsj))
   | none=>
    simp only [hp] at he hb;rw [hkl] at hb;rw [hh.len] at he;by_cases hlt:i<h.length
    ·simp only [hlt,if_true,zJ,aN] at he hb;rw [aF hlt] at hb;simp only [Option.map_some,aE] at hb;subst hb;exact jt hext hold (hh.blk i e _ he (aF hlt)) (λad had=>hkeep i e ad (q6.1 hp) he had)
    ·simp only [hlt,if_false,aN] at he hb;cases hsj:hs[L.length+(i - h.length)]? with
     | none=>simp [hsj] at hb
     | some b0=>
      simp only [hsj,Option.map_some,aE] at hb;subst hb;exact Q5 hown (yj hback (hH.blk _ e b0 he hsj))
 ·refine⟨λb hb=>bB (hg.old b hb) hE.size,λi e ad he had=> ?_,hg.stat.ext hext⟩;rcases hcases i e he with ⟨i',hi',_⟩ | ⟨_,hi⟩
  ·exact hG.dis i' e ad hi' had
  ·exact hg.dis i e ad hi had
 ·intro i e ad he had hi;exact hkeep i e ad (λhm=>hi (QH hrlen i hm)) he had
theorem xZ{h:Heap}(hg:Good O w σ)(hh:HRep (Own O σ) w σ h){K:List Nat}{a:AV}{v:Value}(ha:Rep (Own O σ) w a σ v):Rep (Own O (frzS K σ)) w (vH K h a) (frzS K σ) v:=by
 have hkill:Rep (Own O (frzS K σ)) w (z7 K a) (frzS K σ) v:=qi (jw K w σ) (xz K w σ) _ _ (kF K a) (jW ha);unfold vH;split
 ·rename_i a' k hf;cases hk:k.all K.contains with
  | false=>exact hkill
  | true=>
   have h1:=y9 hg hh ha hf (K:=K) (λi hi=>by have:=bG.1 hk i hi; simpa using this);exact qi (K:=[]) (Ext.refl _ _) (λi e he=>by simp at he) _ _ (j6 _) h1
 ·exact hkill
theorem wo.map{D D':World->Prop}{g:Nat}{vals:Array Value}{w:World}{R R':Value->World->Prop}(hDD:∀ w',D w'->D' w')(hRR:∀ v w',R v w'->R' v w'):wo Xp D P g vals w R->wo Xp D' P g vals w R':=by
 rintro(⟨h1,h2⟩ | ⟨v,w',h1,h2⟩)
 ·exact .inl ⟨h1,h2.mono λe w' h=>h.imp (λ⟨v,he,hR⟩=>⟨v,he,hRR _ _ hR⟩) λ⟨ch,g1,g2,g3⟩=>⟨ch,g1,g2,hDD _ g3⟩⟩
 ·exact .inr ⟨v,w',h1,hRR _ _ h2⟩
theorem Qf{h:Heap}(hg:Good O w σ)(hh:HRep (Own O σ) w σ h){g:Nat}{c:Ctr}(hok:j2 Xp P g c)(hfr:c.fresh=false){args:List AV}{vals:List Value}{Q:Res->Prop}{L:List Nat}
  (ha:RepL (Own O σ) w args σ vals) (hq:(Y3 h c args L).holds Q):wo Xp (Died σ w) P g vals.toArray w λv w'=>∃ r Z',Q r/\Post O w σ h r v w' Z':=by
 simp only [Y3] at hq
 have hOZ:∀ b,Own O σ b->b<w.heap.size:=by
  rintro b (hb | hb)
  ·exact hg.old b hb
  ·obtain⟨i,e,ad,h1,h2,rfl⟩:=zw.1 hb;exact hh.lt i e ad h1 h2
 split at hq
 ·rename_i hcond;simp only [bA,bG,aK] at hcond;obtain⟨hL,hn⟩:=hcond;rw [Tree.zo] at hq;have hLZ:∀ i∈L,i<σ.length:=by rw [hh.len]; exact hL
  let Ec:List SE:=L.map λi=>σ.getD i ⟨none,0⟩
  have hZc:∀ j:Nat,Ec[j]?=(L[j]?).bind λi=>σ[i]?:=by
   intro j;simp only [Ec,aN];cases hj:L[j]? with
   | none=>rfl
   | some i=>
    have:=hLZ i (aY hj);simp [this]
  have hcget:∀ (j:Nat) (e:SE),Ec[j]?=some e->∃ i,L[j]?=some i/\σ[i]?=some e:=by
   intro j e he;rw [hZc] at he;cases hj:L[j]? with
   | none=>simp [hj] at he
   | some i=>simp only [hj,Option.bind_some] at he; exact⟨i,rfl,he⟩
  have hpos:∀ i j,z4 L i=some j->Ec[j]?=σ[i]?:=by
   intro i j hp;rw [hZc,kz hp]; rfl
  have hown:∀ b,Own (Own O (frzS L σ)) Ec b↔Own O σ b:=by
   intro b;constructor
   ·rintro(hb | hb)
    ·exact xb hb
    ·obtain⟨j,e,ad,h1,h2,h3⟩:=zw.1 hb;obtain⟨i,_,hi⟩:=hcget j e h1;exact .inr (zw.2 ⟨i,e,ad,hi,h2,h3⟩)
   ·rintro(hb | hb)
    ·exact .inl (.inl hb)
    ·obtain⟨i,e,ad,h1,h2,h3⟩:=zw.1 hb;by_cases hiL:i∈L
     ·obtain⟨j,hj⟩:=List.mem_iff_getElem?.1 hiL;exact .inr (zw.2 ⟨j,e,ad,by rw [hZc,hj]; exact h1,h2,h3⟩)
     ·exact .inl (.inr (zw.2 ⟨i,e,ad,by rw [qP,h1]; simp [hiL],h2,h3⟩))
  have hownEq:Own (Own O (frzS L σ)) Ec=Own O σ:=funext λb=>propext (hown b)
  have hgc:Good (Own O (frzS L σ)) w Ec:=by
   refine⟨λb hb=>hOZ b (xb hb),λj e ad he had hb=> ?_,hg.stat.own λb hb=>(hown b).1 hb⟩;obtain⟨i,hj,hi⟩:=hcget j e he;rcases Qi hb with hb | ⟨k,f,ad',h1,h2,h3,h4⟩
   ·exact hg.dis i e ad hi had hb
   ·exact hh.inj k i f e ad' ad h1 hi h3 had (λe=>h2 (e▸aY hj)) h4
  have hhc:HRep (Own (Own O (frzS L σ)) Ec) w Ec (L.map λi=>renB (z4 L) (h.getD i .dead)):=by
   rw [hownEq];refine⟨by simp [Ec],?_,?_,?_⟩
   ·intro i j e f a b he hf ha hb hij;obtain⟨i',h1,h2⟩:=hcget i e he;obtain⟨j',h3,h4⟩:=hcget j f hf;refine hh.inj i' j' e f a b h2 h4 ha hb ?_;rintro rfl;have h5:=vA hn h1;have h6:=vA hn h3;rw [h5] at h6; cases h6; exact hij rfl
   ·intro i e a he ha;obtain⟨i',h1,h2⟩:=hcget i e he;exact hh.lt i' e a h2 ha
   ·intro j e b he hb;obtain⟨i,h1,h2⟩:=hcget j e he;simp only [aN,h1,Option.map_some,aE] at hb;subst hb;have hlt:=hL i (aY h1);have hgd:h.getD i .dead=h[i]:=by simp [hlt]
    rw [hgd];exact yj hpos (hh.blk i e _ h2 (aF hlt))
  have hrc:RepL (Own (Own O (frzS L σ)) Ec) w (args.map (ren2 (z4 L))) Ec vals:=by
   rw [hownEq];exact ha.map2 λa v=>Qv hpos
  have hcall:=hok _ _ _ hq (λhf=>by rw [hf] at hfr; cases hfr) (Own O (frzS L σ)) w Ec vals hgc hhc hrc
  refine wo.map (λw' h=>h.mono λb hb=>by
   obtain⟨j,e,ad,h1,h2,h3⟩:=zw.1 hb;obtain⟨i,_,hi⟩:=hcget j e h1;exact zw.2 ⟨i,e,ad,hi,h2,h3⟩) ?_ hcall
  rintro v w' ⟨r,hs,Z',hQ,hR,hH,hG,hl2,hHo,hE⟩;have hl2':L.length<=hs.length:=by simpa using hl2
  dsimp only at hQ
  rw [aP hl2'] at hQ;refine⟨_,mrg σ L Z',hQ,?_⟩;refine ZG hg hh (L:=L) (Ec:=Ec) hL hn hZc ?_ hR hH hl2' hE ⟨λb hb=>hG.old b (.inl hb),λi e ad he had hO'=>hG.dis i e ad he had (.inl hO'),hG.stat.own (λb hb=>hb.imp .inl id)⟩ hHo ?_
  ·rintro b (hb | hb)
   ·exact .inl (.inl (.inl hb))
   ·left;obtain⟨k,e,ad,h1,h2,h3⟩:=zw.1 hb;rw [Zl hLZ hn (by rw [hH.len]; exact hl2')] at h1;split at h1
    ·exact .inr (zw.2 ⟨_,e,ad,h1,h2,h3⟩)
    ·rename_i hp;split at h1
     ·exact .inl (.inr (zw.2 ⟨k,e,ad,by rw [qP,h1]; simp [q6.1 hp],h2,h3⟩))
     ·exact .inr (zw.2 ⟨_,e,ad,h1,h2,h3⟩)
  ·cases hm:c.wS with
   | true=>
    refine⟨λi hi=>List.mem_of_mem_drop (show i∈L.drop c.pins from hi),λj i hj hi hmem=>hi ?_⟩;obtain⟨k,hk⟩:=List.mem_iff_getElem?.1 hmem;rw [aP rfl,List.getElem?_drop] at hk;have hk2:=aG.1 hk;obtain⟨hk3,hk4⟩:=hk2;rw [List.getElem_range] at hk4;refine List.mem_iff_getElem?.2 ⟨k,?_⟩;show(L.drop c.pins)[k]?=some i;rw [List.getElem?_drop,hk4]; exact hj
   | false=>exact⟨by simp,by simp⟩
 ·exact hq.elim
theorem kT:∀ (l m:List (Nat×Blk)) (h:Heap),zk h (l++m)=zk (zk h l) m
 | [],_,_=>rfl
 | p::l,m,h=>by simp only [List.cons_append,zk]; exact kT l m _
theorem yy:∀ (l m:List Nat) (h:Heap),zx (l++m) h=zx m (zx l h)
 | [],_,_=>rfl
 | p::l,m,h=>by simp only [List.cons_append,zx]; exact yy l m _
theorem VT(k:List Nat):j0 k .dead = .dead:=rfl
theorem Kw(K k:List Nat)(h:Heap):jc K (zx k h)=zx k (jc K h):=by
 apply List.ext_getElem?;intro i;rw [qU,zJ,zJ,aN,aN,qU];cases h[i]? with
 | none=>rfl
 | some b=>
  simp only [Option.map_some];split
  ·rw [VT]
  ·rfl
theorem Xb{h:Heap}(hg:Good O w σ)(hh:HRep (Own O σ) w σ h){g:Nat}{c:Ctr}(hok:j2 Xp P g c)(hfr:c.fresh=false){args:List AV}{vals:List Value}{Q:Res->Prop}{K:List Nat}
  (ha:RepL (Own O σ) w args σ vals) (hq:(zfa h c args K).holds Q):wo Xp (Died σ w) P g vals.toArray w λv w'=>∃ r Z',Q r/\Post O w σ h r v w' Z':=by
 unfold zfa at hq;split at hq
 ·rename_i hK;have hK:∀ i∈K,i<h.length:=λi hi=>by have:=bG.1 hK i hi; simpa using this
  rw [Tree.zo] at hq;have hl:(zx K h).length=h.length:=by rw [zJ]; simp
  have hde:zk (zx K h) (wh K)=jc K (zx K h):=xr K _ (λi hi=>by rw [hl]; exact hK i hi);rw [hde] at hq
  have h1:=Qf (xk K hg) (kj hh K) hok hfr ((zt (vs:=vals)).2 ⟨by rw [List.length_map]; exact(zt.1 ha).1,λi x u hx hu=>by
   rw [aN] at hx;cases hy:args[i]? with
   | none=>rw [hy] at hx; cases hx
   | some y=>
    rw [hy] at hx;simp only [Option.map_some,aE] at hx;subst hx;exact xZ hg hh ((zt.1 ha).2 i y u hy hu)⟩) hq
  refine wo.map (λw' h=>h.mono λb hb=>by
   obtain⟨j,e,ad,h1,h2,h3⟩:=zw.1 hb;rw [qP] at h1;cases hj:σ[j]? with
   | none=>rw [hj] at h1; cases h1
   | some e0=>
    rw [hj] at h1;simp only [Option.map_some,aE] at h1;split at h1
    ·rw [<- h1] at h2; cases h2
    ·subst h1; exact zw.2 ⟨j,e0,ad,hj,h2,h3⟩) ?_ h1
  rintro v w' ⟨r,Z',hQ,hP⟩;refine⟨_,Z',hQ,hP.rep,(jw K w σ).trans hP.ext,?_,?_,hP.good,hP.km,?_⟩
  ·have e1:zk (zx (K++r.kill) h) (wh K++r.eff)=zk (zx r.kill (jc K (zx K h))) r.eff:=by
    rw [kT,yy,xr K _ (λi hi=>by rw [zJ r.kill,List.length_map,hl]; exact hK i hi),Kw]
   show HRep _ _ _ (zk (zx (K++r.kill) h) (wh K++r.eff));rw [e1];exact hP.hp
  ·intro i e he hi;simp only [bY,not_or] at hi;exact hP.hold i e (by rw [qP,he]; simp [hi.1]) hi.2
  ·intro i e ad he had hi;simp only [List.map_append,bY,not_or] at hi;have hiK:i∉K:=λhm=>hi.1 (by simp [wh]; exact hm)
   exact hP.fr i e ad (by rw [qP,he]; simp [hiK]) had hi.2
 ·exact hq.elim
theorem Xo{h:Heap}{Γ:Nat->Option Ctr}(hΓ:∀ g c,Γ g=some c->j2 Xp P g c)(hg:Good O w σ)(hh:HRep (Own O σ) w σ h){g:Nat}{args:List AV}{vals:List Value}{Q:Res->Prop}
  (ha:RepL (Own O σ) w args σ vals) (hq:(zf9 Γ h g args).holds Q):wo Xp (Died σ w) P g vals.toArray w λv w'=>∃ r Z',Q r/\Post O w σ h r v w' Z':=by
 simp only [zf9] at hq
 have hOZ:∀ b,Own O σ b->b<w.heap.size:=by
  rintro b (hb | hb)
  ·exact hg.old b hb
  ·obtain⟨i,e,ad,h1,h2,rfl⟩:=zw.1 hb;exact hh.lt i e ad h1 h2
 split at hq
 ·rename_i c hc;have hok:=hΓ g c hc;split at hq
  ·
   rename_i hfr;split at hq
   ·rename_i l hl;rw [Tree.zo] at hq
    let K:List Nat:=l.flatMap (·.2)
    have hK1:∀ p∈l,∀ i∈p.2,i∈K:=λp hp i hi=>List.mem_flatMap.2 ⟨p,hp,hi⟩
    have hargs:=xJ hg hh ha hl hK1;have hO:∀ b,Own O (frzS K σ) b->b<w.heap.size:=λb hb=>hOZ b (xb hb)
    have hcall:=hok _ [] _ hq (λ_=>rfl) (Own O (frzS K σ)) w [] vals ⟨hO,λi e ad h=>by simp at h,hg.stat.own (λb hb=>by rcases hb with hb | ⟨e,he,_⟩; exact xb hb; simp at he)⟩ ⟨rfl,λi j e f a b h=>by simp at h,λi e a h=>by simp at h,λi e b h=>by simp at h⟩
     (zt.2 ⟨hargs.length,λi x u hx hu=>wC (λb hb=>by rcases hb with hb | ⟨e,he,_⟩; exact hb; simp at he) ((zt.1 hargs).2 i x u hx hu)⟩)
    refine wo.map (λw' h=>h.mono λb hb=>by obtain⟨e,he,_⟩:=hb; simp at he) ?_ hcall;rintro v w' ⟨r,hs,Z',hQ,hR,hH,hG,hl2,hHo,hE⟩;refine⟨_,mrg σ [] Z',hQ,?_⟩;have hex:∀ b,Mine ([]:List SE) b->False:=λb ⟨e,he,_⟩=>by simp at he
    refine ZG hg hh (L:=[]) (Ec:=[]) (Kc:=[]) (by simp) rfl (by simp) ?_ hR hH (by simp) hE ⟨λb hb=>hG.old b (.inl hb),λi e ad he had hO'=>hG.dis i e ad he had (.inl hO'),hG.stat.own (λb hb=>hb.imp .inl id)⟩ (λi e h=>by simp at h) ⟨by simp,by simp⟩;simp only [mrg];rintro b (hb | ⟨e,he,ad,h1,h2⟩)
    ·exact .inl (.inl (.inl hb))
    rcases bY.1 he with he | he
    ·exact .inr ⟨hfr,hOZ b (.inr ⟨e,he,ad,h1,h2⟩)⟩
    ·exact .inl (.inr ⟨e,he,ad,h1,h2⟩)
   ·exact hq.elim
  ·
   rename_i hfr;cases hs:c.sinks with
   | true=>rw [hs] at hq; exact Xb hg hh hok hfr ha hq
   | false=>rw [hs] at hq; exact Qf hg hh hok hfr ha hq
 ·exact hq.elim
end
end Go.Sx
end
