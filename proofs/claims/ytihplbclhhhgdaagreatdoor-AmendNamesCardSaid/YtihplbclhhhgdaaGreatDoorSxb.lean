/- Part 2 of the proof. -/
import Derived.WalkKit
import Derived.WalkLawsBesides
import Derived.Test.YtihplbclhhhgdaaGreatDoorProg
set_option linter.unusedVariables false
set_option linter.unusedSimpArgs false
set_option linter.unusedSectionVars false
section
namespace Go.Proofs
open Go.RowKit
theorem Tryz.zgh(x:Bool)(e:Int)(w:World):Calls Tryz.prog 117 #[.bool x,.int .i64 e] w λen w'=>w'=w/\((e=0/\en = .returned (.bool x))\/(e≠0/\en = .panicked [{ v:=.iface 152 (.agg #[.int .i64 e]),recovered:=false }])):=by
 by_cases h:e=0
 ·subst h
  go_enter Tryz.func117,Tryz.ntmps117
  go_wp2
  go_ret
  exact⟨rfl,.inl ⟨trivial,rfl⟩⟩
 ·go_enter Tryz.func117,Tryz.ntmps117
  go_wp2
  exact⟨rfl,rfl,.inr ⟨h,rfl⟩⟩
theorem Tryz.zg6(x:ByteArray)(e:Int)(w:World):Calls Tryz.prog 120 #[.string x,.int .i64 e] w λen w'=>w'=w/\((e=0/\en = .returned (.string x))\/(e≠0/\en = .panicked [{ v:=.iface 152 (.agg #[.int .i64 e]),recovered:=false }])):=by
 by_cases h:e=0
 ·subst h
  go_enter Tryz.func120,Tryz.ntmps120
  go_wp2
  go_ret
  exact⟨rfl,.inl ⟨trivial,rfl⟩⟩
 ·go_enter Tryz.func120,Tryz.ntmps120
  go_wp2
  exact⟨rfl,rfl,.inr ⟨h,rfl⟩⟩
end Go.Proofs
end
