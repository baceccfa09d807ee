/- The row of the law FnNodes: for every input that can be read the law's function returns true, and each argument reads afterwards as it read before. No conditions beside the row's own. -/
import Derived.Test.YtmapddgocpkgeaaGreatRows
import Derived.Test.YtmapddgocpkgeaaGreatEvLFnNodes
import Derived.Test.YtmapddgocpkgeaaGreatPureFnNodes
import Derived.WalkKit
import Derived.ProofKit
import Derived.OpenShut
import Derived.ShutString
import Derived.ChangeOld
import Derived.Below
import Derived.SizedLaws
namespace Go.Proofs.YtmapddgocpkgeaaGreat.fnNodes
open Go.ChangeShapes Go.WideShapes Go.ChangeAt Go.RowKit Go.Proofs.YtmapddgocpkgeaaGreat.aa Go.Proofs.YtmapddgocpkgeaaGreat.Ev
open Go.ChangeMaps (open_string shut_string)
set_option linter.unusedVariables false
theorem own:ownKnob Tryz.prog.godebug=none:=by kernel_rfl
theorem laidOut:laidOutB Tryz.prog=true:=by kernel_rfl
set_option maxRecDepth 100000 in
theorem lifted (os:Os) (started:os.Started) (H:Type) (enc:TypeId×Value→H):
 ReturnsInHanded {} Tryz.checked os 3 .any (Rows.fnNodesSpec.pre6 enc Tryz.prog Tryz.f3 Rows.fnNodesRow.domain false) (Rows.fnNodesSpec.post enc Tryz.prog Tryz.f3 false true false false):=by
 refine returnsInHanded_of_change_sized (C:=Tryz.checked) own started (by kernel_rfl) Tryz.func3
  (ChangeSpec.witness6 (enc:=enc) (C:=Tryz.checked) false ⟨#[], #[.slice none 0 0],[]⟩ 8 (by kernel_rfl) (by kernel_rfl) (by kernel_rfl) (by kernel_rfl)) ?_
 intro W base args ds gs before hval0 hW hcnd hsz0 _;have hval:∀(j:Nat) t v,Tryz.f3.params[j]? =some t→args[j]? =some v→Value.okWide Tryz.prog W .any base t v:=hval0;have hW':=hW;obtain⟨p,q,hA0,hV,rfl,hfz,hnd⟩:=hW;have hA:DataW.TrodAll enc Tryz.prog W 0 (fun _=>true) true Tryz.f3.params.toList args.toList ds p:=hA0;rw[Tryz.params3]at hA hval;obtain⟨v0,vs0,d0,ds0,p0,q0,hargs,rfl,rfl,h0,r0⟩:=trodAll_cons hA;obtain⟨rfl,rfl,rfl⟩:=trodAll_nil r0;obtain rfl:args= #[v0]:=by cases args;simp_all
 obtain⟨rfl,rfl⟩:=trodVars_none hV;have k0:=h0;have lt0:∀x∈p0,x.block<W.heap.size:=by obtain⟨m,hm⟩:=k0;exact DataW.trod_lt m _ _ _ hm
 obtain⟨a0,len0,cap0,rfl⟩:=okWide_slice Tryz.underlying22 (hval 0 22 v0 rfl rfl);obtain⟨fu0,hf0⟩:=h0;obtain⟨y0,hI0,hG0⟩:=(xi (e:=5) G (g:=(fun n_:Int=>(Lit.int .u8 n_).wf=true)) Tryz.underlying22 (by kernel_rfl) (Nat.lt_of_lt_of_eq (by decide:0<1) (by kernel_rfl)) (Al Tryz.underlying5)).out enc W _ _ _ _ _ hf0;clear hA0 hval0 hsz0;have h:=Pure.FnNodes y0 hG0;have hs:ae Tryz.prog C 3 (aa.start C 88 [.sl 5 y0] []) 0 (.bool true) []:=(cY.told y0).ok true h;refine(hs.law (w:=W) rfl (by simp) (fun i v hi=> ?_) ⟨trivial,fun _ h=>by cases h⟩).mono fun e W' ⟨v,he,⟨N_,bs_,hv⟩,bel⟩=> ?_
 ·match i,hi with
  | 0,hi=>cases hi;exact⟨_,rfl,BW (u:=Value.slice a0 len0 cap0) hI0⟩
  | i+1,hi=>simp at hi
 ·have hv:v= .bool true:=hv;subst hv;subst he;exact⟨_,rfl,_,_,_,[],_,[],hW',trodAll_mk1 (shut_bool Tryz.underlying4 _),(trodAll_cons_mk (Below.trod laidOut (by kernel_rfl) (of_decide_eq_true (by kernel_rfl)) k0 bel lt0) trodAll_mk0),rfl,bel.frame _,fun h=>by cases h⟩
theorem over:Rows.fnNodesRow.holds Tryz.pinned (OpenSpec.ofChange Rows.fnNodesSpec):=
 OpenClaim.holds_of_wide 3 Tryz.f3 rfl rfl rfl rfl rfl rfl rfl ⟨rfl,rfl,rfl,rfl,rfl⟩ rfl rfl rfl rfl rfl (by kernel_rfl) Tryz.func3 (by kernel_rfl)
  (of_decide_eq_true (by kernel_rfl)) (by unfold Func.isWrapper;first | (rw[if_pos (by decide+kernel)];kernel_rfl) | (rw[if_neg (by decide+kernel)];exact⟨rfl,rfl⟩))
  (fun os started H enc _=>lifted os started H enc)
end Go.Proofs.YtmapddgocpkgeaaGreat.fnNodes
namespace Go.Proofs.YtmapddgocpkgeaaGreat
theorem fnNodes_holds:Rows.FnNodesSaid:=fnNodes.over
#print axioms fnNodes_holds
end Go.Proofs.YtmapddgocpkgeaaGreat
