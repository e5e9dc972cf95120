/- What is proved: the program's WorkerNew and the reference's WorkerNew give the same five fields for every number; no condition. -/
import Derived.Test.YtlfmcocglmodaaaPFnExactWorkerNewx1
namespace Go.Proofs.Ytlfmcocglmodaaa.Pure
open Go.RowKit Go.Proofs.Ytlfmcocglmodaaa.PFnExactWorkerNew Go.Proofs.YtlfmcocglmodaaaW.PrintWords Go.Proofs.YtlfmcocglmodaaaW.PrintLast

theorem FnExactWorkerNew : laws_FnExactWorkerNew.Pure := by
  intro a _
  simp [laws_FnExactWorkerNew.f, spec_WorkerNew.f, impl_WorkerNew.f, laws_eqWorker.f]

end Go.Proofs.Ytlfmcocglmodaaa.Pure
