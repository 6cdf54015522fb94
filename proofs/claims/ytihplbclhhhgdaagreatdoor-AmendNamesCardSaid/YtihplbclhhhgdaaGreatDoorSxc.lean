/- Part 3 of the proof. -/
import Derived.WalkKit
import Derived.WalkLawsBesides
import Derived.Defers
import Derived.Recover
import Derived.TacticsInMore
import Derived.RegionIn
import Derived.LoopNIn
import Derived.RecoverIn
import Derived.Laws.Pointers
import Derived.Deep.RegionHeld
import Derived.Laws.NewBlocks
import Derived.Test.YtihplbclhhhgdaaGreatDoorProg
set_option linter.unusedVariables false
set_option linter.unusedSimpArgs false
set_option linter.unusedSectionVars false
section
namespace Go.Proofs
open Go.RowKit
set_option maxHeartbeats 4000000 in
theorem Tryz.Yb(pe pl:Addr)(w:World):CallsDIn Fence.wide 0 Tryz.prog 77 #[.pointer (some pe),.pointer (some pl)] .returning w λe u' w'=>e = .returned (.tuple #[])/\u' = .returning/\w'=w:=by
 refine callsDIn_of_wpSIn Tryz.func77 rfl trivial λc₀ cs hu=> ?_
 apply wpSIn_seq;apply wpSIn_region;simp [wpOpsSIn,go_sem,recoverD,hu,Tryz.ntmps77,Exit.thenS];simp only [Array.replicate,List.replicate,Array.setIfInBounds];refine wpSIn_of_wpIn rfl ?_
 gi_wp2
 cases c₀;simp_all [bodyPostS,results,Tryz.results77]
set_option maxRecDepth 100000 in
set_option maxHeartbeats 4000000 in
theorem Tryz.XA(be bl:Nat)(x ov:Int)(lv:Value)(older:List PanicEntry)(w:World)(hc:w.cell? ⟨be,0,none⟩=some (.int .i64 ov))(hz:w.frozen? ⟨be,0,none⟩=false)(hc2:w.cell? ⟨bl,0,none⟩=some lv)(hz2:w.frozen? ⟨bl,0,none⟩=false)(hne:be≠bl) :
  CallsDIn Fence.wide 0 Tryz.prog 77 #[.pointer (some ⟨be,0,none⟩),.pointer (some ⟨bl,0,none⟩)] (.panicking ({ v:=.iface 152 (.agg #[.int .i64 x]),recovered:=false } :: older)) w λe u' w'=>
   e = .returned (.tuple #[])/\u' = .panicking ({ v:=.iface 152 (.agg #[.int .i64 x]),recovered:=true } :: older)/\w'=((w.setCell ⟨be,0,none⟩ (.int .i64 x)).setCell ⟨bl,0,none⟩ (.slice none 0 0)).alloc (.cells #[.int .i64 x] 152):=by
 have hta:∀ (v:Value) (T:TypeId) (w:World),(Instr.typeAssert (.iface 152 v) T 152 true).run Tryz.prog w = .ok (.tuple #[v,.bool true]) w:=λv T w=>by
  simp [Instr.typeAssert,go_sem]
 have hb:=World.block_lt_of_cell? w _ hc;have hb2:=World.block_lt_of_cell? w _ hc2;have c1:(w.alloc (.cells #[.int .i64 x] 152)).cell? ⟨be,0,none⟩=some (.int .i64 ov):=by rw [World.cell?_alloc_past _ _ _ hb]; exact hc
 have f1:(w.alloc (.cells #[.int .i64 x] 152)).frozen? ⟨be,0,none⟩=false:=by rw [World.frozen?_alloc_past _ _ _ hb]; exact hz
 have f2:(w.alloc (.cells #[.int .i64 x] 152)).frozen? ⟨bl,0,none⟩=false:=by rw [World.frozen?_alloc_past _ _ _ hb2]; exact hz2
 have c2:((w.alloc (.cells #[.int .i64 x] 152)).setCell ⟨be,0,none⟩ (.int .i64 x)).cell? ⟨bl,0,none⟩=some lv:=by
  rw [World.cell?_setCell_far _ _ _ _ hne,World.cell?_alloc_past _ _ _ hb2]; exact hc2
 refine callsDIn_of_wpSIn Tryz.func77 rfl trivial λc₀ cs hu=> ?_
 apply wpSIn_seq;apply wpSIn_region;simp [wpOpsSIn,go_sem,recoverD,hu,Tryz.ntmps77,Exit.thenS];simp only [Array.replicate,List.replicate,Array.setIfInBounds];refine wpSIn_of_wpIn rfl ?_
 gi_wp2
 simp [bodyPostS,results,Tryz.results77]
end Go.Proofs
end
