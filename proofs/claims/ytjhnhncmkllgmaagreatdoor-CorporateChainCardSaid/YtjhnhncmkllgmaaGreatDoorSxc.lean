/- Part 3 of the proof. -/
import Derived.WalkKit
import Derived.WalkLawsBesides
import Derived.Test.YtjhnhncmkllgmaaGreatDoorProg
set_option linter.unusedVariables false
set_option linter.unusedSimpArgs false
set_option linter.unusedSectionVars false
section
namespace Go.Proofs
open Go.RowKit
theorem Tryz.zid(x:Bool)(e:Int)(w:World):Calls Tryz.prog 110 #[.bool x,.int .i64 e] w λen w'=>w'=w/\((e=0/\en = .returned (.bool x))\/(e≠0/\en = .panicked [{ v:=.iface 151 (.agg #[.int .i64 e]),recovered:=false }])):=by
 by_cases h:e=0
 ·subst h
  go_enter Tryz.func110,Tryz.ntmps110
  go_wp2
  go_ret
  exact⟨rfl,.inl ⟨trivial,rfl⟩⟩
 ·go_enter Tryz.func110,Tryz.ntmps110
  go_wp2
  exact⟨rfl,rfl,.inr ⟨h,rfl⟩⟩
theorem Tryz.zi4(x:ByteArray)(e:Int)(w:World):Calls Tryz.prog 113 #[.string x,.int .i64 e] w λen w'=>w'=w/\((e=0/\en = .returned (.string x))\/(e≠0/\en = .panicked [{ v:=.iface 151 (.agg #[.int .i64 e]),recovered:=false }])):=by
 by_cases h:e=0
 ·subst h
  go_enter Tryz.func113,Tryz.ntmps113
  go_wp2
  go_ret
  exact⟨rfl,.inl ⟨trivial,rfl⟩⟩
 ·go_enter Tryz.func113,Tryz.ntmps113
  go_wp2
  exact⟨rfl,rfl,.inr ⟨h,rfl⟩⟩
end Go.Proofs
end
