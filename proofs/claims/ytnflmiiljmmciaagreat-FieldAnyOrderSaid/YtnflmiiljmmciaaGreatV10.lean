/- Part of the proof of FieldAnyOrder. -/
import Derived.KernelRfl
set_option linter.all false
namespace Go
def ab{p:Prop}(h:p:=by omega):p:=h
def ae{p:Prop}(h:p:=by kernel_rfl):p:=h
def ao{p:Prop}(h:p:=by decide):p:=h
def ar{p:Prop}(h:p:=by simp):p:=h
def aS{p:Prop}(h:p:=by grind):p:=h
def ba{p:Prop}(h:p:=by assumption):p:=h
def bo{p:Prop}(h:p:=by simp_all):p:=h
def bp{p q:Prop}(h:¬p:=by decide):p->q:=λe=>absurd e h
def bs{p:Prop}(h:p:=by intro h;cases h):p:=h
def br{α:Sort _}(a:α):∃x,x=a:=⟨_,rfl⟩
end Go
