/- TopSame, part 0: lemmas on the way. -/
set_option maxHeartbeats 8000000
set_option maxRecDepth 1000000
set_option linter.unusedVariables false
set_option linter.unusedSimpArgs false
namespace Go.Proofs
theorem Zo {p:Prop} (h:p:=by omega):p:=h
theorem Zd {p:Prop} (h:p:=by decide):p:=h
theorem Za {p:Prop} (h:p:=by assumption):p:=h
theorem Zs {p:Prop} (h:p:=by simp):p:=h
end Go.Proofs
