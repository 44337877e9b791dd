/- The step of a call through a function value. No condition. -/
import Derived.Test.YthiklmgdmaemgaaWWords
import Derived.Test.YthiklmgdmaemgaaWLast
import Derived.Test.YthiklmgdmaemgaaWMore
namespace Go.Proofs.YthiklmgdmaemgaaW.PrintMore
open Go.RowKit Go.Proofs.YthiklmgdmaemgaaW.PrintWords Go.Proofs.YthiklmgdmaemgaaW.PrintLast
section
variable {P : Program} {ops : Array Oper} {rest : List Oper} {o : Oper} {a : Act} {Q : Exit → Act → World → Prop} {W : World}
/-- The operation is a call of a function value that lies in a slot (a cheap look ahead of a dear step). -/
theorem gate_value {t : Tmp} {as : Array Operand} {ts : Array TypeId} (_ho : o.op = .call { callee := .value (.tmp t), args := as, argTypes := ts }) (h : wpList P ops Q (o :: rest) a W) : wpList P ops Q (o :: rest) a W := h
/-- A call of a function value, by its contract. -/
theorem goesV_ (N : Option Tmp) (hd : o.dst = N) (hg : o.guard = none) {f : FuncId} {fn : Func} {t : Tmp} {as : Array Operand} {ts : Array TypeId} (hf : P.funcs[f]? = some fn) (hname : (fn.name == "runtime.NumGoroutine") = false) (hb : fn.body.isSome = true) (xs caps : List Value)
    (hop : o.op = .call { callee := .value (.tmp t), args := as, argTypes := ts }) (hc : a.eval (.tmp t) = .func (.func f) #[] caps.toArray) (hargs : as.map a.eval = xs.toArray)
    (h : Calls P f (List.toArray (xs ++ caps)) W fun e w' => ∃ v, e = .returned v ∧ wpList P ops Q rest (a.put N v) w') : wpList P ops Q (o :: rest) a W := by
  refine wpList_plain hg fun K hK => ?_
  have he := enters_ hf hname hb (List.toArray (xs ++ caps)) W
  have hrun : (execOp a.eval o).run P W = .ok (.enter f (List.toArray (xs ++ caps))) W := by
    unfold execOp
    simp only [hop]
    simp [resolve, hc, Deferred.ofValue, invoke, hargs, he]
  unfold Oper.wp
  rw [hrun, Oper.upon_enter]
  refine h.mono fun e w'' hh => ?_
  obtain ⟨v, rfl, hk⟩ := hh
  subst hd
  exact hK _ _ hk
end
end Go.Proofs.YthiklmgdmaemgaaW.PrintMore
