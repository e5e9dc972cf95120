/-
  PROVED: laws.FnExactReadJob returns true for every text that is handed to it, and the argument reads behind the call as it read before (that is: the program's ReadJob returns what the reference's returns).
  CONDITIONS: none beyond the given statement's own.
-/
import Derived.Test.YtbjkeppbogdgcaaGreatRows
import Derived.Test.YtbjkeppbogdgcaaGreatZY55
import Derived.Test.YtbjkeppbogdgcaaGreatZX20
import Derived.Test.YtbjkeppbogdgcaaGreatZCa
import Derived.WalkKit
import Derived.ProofKit
import Derived.OpenShut
import Derived.ShutString
import Derived.ChangeOld
import Derived.Below
import Derived.Carry
import Derived.SizedLaws
import Derived.Lib.SmallJoins
set_option linter.unusedVariables false
namespace Go.Proofs.YtbjkeppbogdgcaaGreat.fnExactReadJob
open Go.ChangeShapes Go.WideShapes Go.ChangeAt Go.RowKit Go.Joins Go.Deep
open Go.Vsi
theorem f9d(s:List UInt8)(hm:s.length<=maxLen):c6 Tryz.prog Go.Vsi.T1 L1 3 [b5j Tryz.prog 9 [.v (.string (B s))]] []=some (.one (.c (.d (.v (.bool true)))),[]):=by
 rw[show b5j Tryz.prog 9 [.v (.string (B s))]=.c (.d (.v (.string (B s))))from by unfold b5j;rw[Y9.2.2.2.1]]
 exact e1f rdP (d9m b8l) (d9n b7m) s hm
theorem e1r:a0a Tryz.prog:=d2x (by kernel_rfl)
theorem f2z:Tryz.prog.follows .mixedOrders=true:=by kernel_rfl
theorem f7b:a6c Tryz.prog Go.Vsi.T:=b7c (by kernel_rfl)
theorem f3a:a6c Tryz.prog Go.Vsi.T1:=b7c (by kernel_rfl)
theorem f3b:J8 Tryz.prog L1:=fun f args bs r bs' h=>by
 unfold L1 at h
 split at h
 ·exact c0b (T:=Go.Vsi.T) (lib:=L0) f2y e1r f2z f7b f args bs r bs' h
 ·cases h
theorem own:ownKnob Tryz.prog.godebug=none:=by kernel_rfl
theorem e8d:laidOutB Tryz.prog=true:=by kernel_rfl
set_option maxRecDepth 100000 in
theorem f3c(os:Os)(started:os.Started)(H:Type)(enc:TypeId×Value->H):
  ReturnsInHanded {} Tryz.checked os 3 .any (Rows.fnExactReadJobSpec.pre6 enc Tryz.prog Tryz.f3 Rows.fnExactReadJobRow.domain false) (Rows.fnExactReadJobSpec.post enc Tryz.prog Tryz.f3 false true false false):=by
 refine returnsInHanded_of_change_sized (C:=Tryz.checked) own started (by kernel_rfl) Tryz.func3
  (ChangeSpec.witness6 (enc:=enc) (C:=Tryz.checked) false ⟨#[],#[.string ⟨#[]⟩],[]⟩ 8 (by kernel_rfl) (by kernel_rfl) (by kernel_rfl) (by kernel_rfl)) ?_
 intro W base args ds gs a9d hval0 hW hcnd hsz0 _
 have hval: ∀(j:Nat) t v,Tryz.f3.params[j]?=some t->args[j]?=some v->Value.okWide Tryz.prog W .any base t v:=hval0
 have hW':=hW
 obtain⟨p,q,hA0,hV,rfl,hfz,hnd⟩:=hW
 have hA:DataW.TrodAll enc Tryz.prog W 0 (fun _=>true) true Tryz.f3.params.toList args.toList ds p:=hA0
 rw[Tryz.params3]at hA hval
 obtain⟨v0,vs0,d0,ds0,p0,q0,hargs,rfl,rfl,h0,r0⟩:=trodAll_cons hA
 obtain⟨rfl,rfl,rfl⟩:=trodAll_nil r0
 obtain rfl:args= #[v0]:=by cases args;simp_all
 obtain⟨rfl,rfl⟩:=trodVars_none hV
 have hlt: ∀x∈p0,x.block<W.heap.size:=fun x hx=>by simpa using hW'.lt x (by simpa using hx)
 obtain⟨e0,w0,r0⟩:=d7x (k:=8) (by kernel_rfl) (hval 0 9 v0 rfl rfl) h0
 obtain⟨x0,rfl,o0⟩:=wt9 w0
 clear hA0 hval0 hsz0
 refine(show Calls Tryz.prog 3 #[v0] W (fun e w'=>e=.returned (.bool true)∧Below W.heap.size W w')from ?_).mono fun e W' ⟨he,bel⟩=>?_
 ·refine c9y (c0b (T:=Go.Vsi.T1) (lib:=L1) f3b e1r f2z f3a) (f9d x0 o0) rfl fun j s hj=>?_
  cases j with
  |zero=>simp at hj;subst hj;exact⟨v0,rfl,r0⟩
  |succ j=>simp at hj
 subst he
 exact⟨_,rfl,_,_,_,[],_,[],hW',trodAll_mk1 (shut_bool Tryz.underlying4 _),
  (trodAll_cons_mk (Below.trod e8d (by kernel_rfl) (of_decide_eq_true (by kernel_rfl)) h0 bel hlt) trodAll_mk0),rfl,bel.frame _,fun h=>by cases h⟩
theorem f9e:Rows.fnExactReadJobRow.holds Tryz.pinned (OpenSpec.ofChange Rows.fnExactReadJobSpec):=
 OpenClaim.holds_of_wide 3 Tryz.f3 rfl rfl rfl rfl rfl rfl rfl ⟨rfl,rfl,rfl,rfl,rfl⟩ rfl rfl rfl rfl rfl (by kernel_rfl) Tryz.func3 (by kernel_rfl)
  (of_decide_eq_true (by kernel_rfl)) (by unfold Func.isWrapper;first|(rw[if_pos (by decide+kernel)];kernel_rfl)|(rw[if_neg (by decide+kernel)];exact⟨rfl,rfl⟩))
  (fun os started H enc _=>f3c os started H enc)
theorem proved:Rows.FnExactReadJobSaid:=f9e
end Go.Proofs.YtbjkeppbogdgcaaGreat.fnExactReadJob
namespace Go.Proofs.YtbjkeppbogdgcaaGreat
theorem fnExactReadJob_holds:Rows.FnExactReadJobSaid:=fnExactReadJob.proved
end Go.Proofs.YtbjkeppbogdgcaaGreat
