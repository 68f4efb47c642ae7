import Derived.KernelRfl
/- Facts by the kernel, by arithmetic, by simplification. -/
theorem k_{α:Sort _}{a b:α}(h:a=b:=by kernel_rfl):a=b:=h
theorem o_{p:Prop}(h:p:=by omega):p:=h
theorem s_{p:Prop}(h:p:=by simp):p:=h
theorem d_{p:Prop}(h:p:=by decide):p:=h
theorem t_{p:Prop}(h:p:=by simp;first|exact⟨rfl,rfl⟩|rfl):p:=h
theorem r_{p:Prop}(h:p:=by repeat' first|rfl|apply And.intro):p:=h
