/- Part 2 of the proof. -/
import Derived.WalkKit
import Derived.WalkLawsBesides
import Derived.Test.YtpnllbdffdpoaaaGreatDoorProg
set_option linter.unusedVariables false
set_option linter.unusedSimpArgs false
set_option linter.unusedSectionVars false
section
namespace Go.Proofs
open Go.RowKit
theorem Tryz.zgi(x:Bool)(e:Int)(w:World):Calls Tryz.prog 119 #[.bool x,.int .i64 e] w λen w'=>w'=w/\((e=0/\en = .returned (.bool x))\/(e≠0/\en = .panicked [{ v:=.iface 180 (.agg #[.int .i64 e]),recovered:=false }])):=by
 by_cases h:e=0
 ·subst h
  go_enter Tryz.func119,Tryz.ntmps119
  go_wp2
  go_ret
  exact⟨rfl,.inl ⟨trivial,rfl⟩⟩
 ·go_enter Tryz.func119,Tryz.ntmps119
  go_wp2
  exact⟨rfl,rfl,.inr ⟨h,rfl⟩⟩
theorem Tryz.zg9(x:ByteArray)(e:Int)(w:World):Calls Tryz.prog 122 #[.string x,.int .i64 e] w λen w'=>w'=w/\((e=0/\en = .returned (.string x))\/(e≠0/\en = .panicked [{ v:=.iface 180 (.agg #[.int .i64 e]),recovered:=false }])):=by
 by_cases h:e=0
 ·subst h
  go_enter Tryz.func122,Tryz.ntmps122
  go_wp2
  go_ret
  exact⟨rfl,.inl ⟨trivial,rfl⟩⟩
 ·go_enter Tryz.func122,Tryz.ntmps122
  go_wp2
  exact⟨rfl,rfl,.inr ⟨h,rfl⟩⟩
end Go.Proofs
end
