/- Words of this session beside the print's: a call of a function value that the frame holds. -/
import Derived.Test.YtfcmckomagaiiaaDoorUMore
namespace Go.Proofs.YtfcmckomagaiiaaDoorW.PrintWords
open Go.Proofs.YtfcmckomagaiiaaDoorW.PrintLast Go.Proofs.YtfcmckomagaiiaaDoorW.PrintMore
variable {P : Program} {ops : Array Oper} {rest : List Oper} {o : Oper} {a : Act} {Q : Exit → Act → World → Prop} {W : World}
/-- The operation is a call of what a slot holds. -/
theorem gate_calleev (_ho : ∃ (t : Tmp) (as : Array Operand) (ts : Array TypeId), o.op = .call { callee := .value (.tmp t), args := as, argTypes := ts }) (h : wpList P ops Q (o :: rest) a W) : wpList P ops Q (o :: rest) a W := h
/-- A call of a function that a slot holds, as an arm of go_wp2_with. -/
theorem goesLv_ {w : World} (N : Option Tmp) (hd : o.dst = N) (hg : o.guard = none) {f : FuncId} {fn : Func} {as : Array Operand} (hf : P.funcs[f]? = some fn) (hname : (fn.name == "runtime.NumGoroutine") = false) (hb : fn.body.isSome = true) (args : Array Value)
    (hop : ∃ (x : Operand) (ts : Array TypeId), o.op = .call { callee := .value x, args := as, argTypes := ts } ∧ a.eval x = .func (.func f) #[] #[]) (hargs : as.map a.eval = args)
    (h : Calls P f args w fun e w' => ∃ v, e = .returned v ∧ wpList P ops Q rest (a.put N v) w') : wpList P ops Q (o :: rest) a w := by
  obtain ⟨x, ts, hop, hx⟩ := hop
  refine wpList_plain hg fun K hK => ?_
  have he := PrintLast.enters_ hf hname hb args w
  have hrun : (execOp a.eval o).run P w = .ok (.enter f args) w := by
    unfold execOp
    simp [hop, resolve, Deferred.ofValue, invoke, hx, hargs, he]
  unfold Oper.wp
  rw [hrun, Oper.upon_enter]
  refine h.mono fun e w'' hh => ?_
  obtain ⟨v, rfl, hk⟩ := hh
  subst hd
  exact hK _ _ hk
end Go.Proofs.YtfcmckomagaiiaaDoorW.PrintWords
namespace Go.Proofs.YtfcmckomagaiiaaDoorW.PrintWords
open Go.Sem
/-- A row's value is stored as one cell. -/
theorem Kd.R_st {α : Type} {d : Kd α} {e : Nat} {w : World} {base : Nat} {ok : Nat → Prop} {v : Value} {xs : List α} (h : d.R e w base ok v xs) (P : Program) (W : World) (a : Addr) (m : Mode) : (store a v m).run P W = stored P W a v m := by
  obtain ⟨A, c, rfl⟩ := Kd.R_slice h
  exact run_store P W a _ m rfl
end Go.Proofs.YtfcmckomagaiiaaDoorW.PrintWords
