import Derived.KernelRfl
/- Facts by the kernel, by arithmetic, by simplification. -/
theorem k_{α:Sort _}{a b:α}(h:a=b:=by kernel_rfl):a=b:=h
theorem o_{p:Prop}(h:p:=by omega):p:=h
theorem s_{p:Prop}(h:p:=by simp):p:=h
