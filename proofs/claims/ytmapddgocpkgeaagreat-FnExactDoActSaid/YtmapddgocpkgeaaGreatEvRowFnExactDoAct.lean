/- The row of the law FnExactDoAct: for every input that can be read the law's function returns true, and each argument reads afterwards as it read before. No conditions beside the row's own. -/
import Derived.Test.YtmapddgocpkgeaaGreatRows
import Derived.Test.YtmapddgocpkgeaaGreatEvLFnExactDoAct
import Derived.Test.YtmapddgocpkgeaaGreatPureFnExactDoAct
import Derived.WalkKit
import Derived.ProofKit
import Derived.OpenShut
import Derived.ShutString
import Derived.ChangeOld
import Derived.Below
import Derived.SizedLaws
namespace Go.Proofs.YtmapddgocpkgeaaGreat.fnExactDoAct
open Go.ChangeShapes Go.WideShapes Go.ChangeAt Go.RowKit Go.Proofs.YtmapddgocpkgeaaGreat.aa Go.Proofs.YtmapddgocpkgeaaGreat.Ev
open Go.ChangeMaps (open_string shut_string)
set_option linter.unusedVariables false
theorem own:ownKnob Tryz.prog.godebug=none:=by kernel_rfl
theorem laidOut:laidOutB Tryz.prog=true:=by kernel_rfl
set_option maxRecDepth 100000 in
theorem lifted (os:Os) (started:os.Started) (H:Type) (enc:TypeId×Value→H):
 ReturnsInHanded {} Tryz.checked os 5 .any (Rows.fnExactDoActSpec.pre6 enc Tryz.prog Tryz.f5 Rows.fnExactDoActRow.domain false) (Rows.fnExactDoActSpec.post enc Tryz.prog Tryz.f5 false true false false):=by
 refine returnsInHanded_of_change_sized (C:=Tryz.checked) own started (by kernel_rfl) Tryz.func5
  (ChangeSpec.witness6 (enc:=enc) (C:=Tryz.checked) false ⟨#[], #[(.agg #[.slice none 0 0,.slice none 0 0,.slice none 0 0,.int .i64 0,.int .i64 0,.int .i64 0,.int .i64 0,.int .i64 0,.int .i64 0,.int .i64 0,.int .i64 0,.slice none 0 0,.int .i64 0]),(.agg #[.int .i64 0,.int .i64 0,.int .i64 0])],[]⟩ 8 (by kernel_rfl) (by kernel_rfl) (by kernel_rfl) (by kernel_rfl)) ?_
 intro W base args ds gs before hval0 hW hcnd hsz0 _;have hval:∀(j:Nat) t v,Tryz.f5.params[j]? =some t→args[j]? =some v→Value.okWide Tryz.prog W .any base t v:=hval0;have hW':=hW;obtain⟨p,q,hA0,hV,rfl,hfz,hnd⟩:=hW;have hA:DataW.TrodAll enc Tryz.prog W 0 (fun _=>true) true Tryz.f5.params.toList args.toList ds p:=hA0;rw[Tryz.params5]at hA hval;obtain⟨v0,vs0,d0,ds0,p0,q0,hargs,rfl,rfl,h0,r0⟩:=trodAll_cons hA;obtain⟨v1,vs1,d1,ds1,p1,q1,rfl,rfl,rfl,h1,r1⟩:=trodAll_cons r0;obtain⟨rfl,rfl,rfl⟩:=trodAll_nil r1;obtain rfl:args= #[v0,v1]:=by cases args;simp_all
 obtain⟨rfl,rfl⟩:=trodVars_none hV;have k0:=h0;have lt0:∀x∈p0,x.block<W.heap.size:=by obtain⟨m,hm⟩:=k0;exact DataW.trod_lt m _ _ _ hm
 obtain⟨cs0,rfl,_⟩:=okWide_struct Tryz.underlying57 (hval 0 57 v0 rfl rfl);obtain⟨fu0,hf0⟩:=h0;obtain⟨y0,hI0,hG0⟩:=DD.out enc W _ _ _ _ _ hf0;have k1:=h1;have lt1:∀x∈p1,x.block<W.heap.size:=by obtain⟨m,hm⟩:=k1;exact DataW.trod_lt m _ _ _ hm
 obtain⟨cs1,rfl,_⟩:=okWide_struct Tryz.underlying64 (hval 1 64 v1 rfl rfl);obtain⟨fu1,hf1⟩:=h1;obtain⟨y1,hI1,hG1⟩:=DI.out enc W _ _ _ _ _ hf1;clear hA0 hval0 hsz0;have h:=Pure.FnExactDoAct y0.f0.f0 y0.f1 y0.f2 y0.f3 y0.f4.f0 y0.f4.f1 y0.f4.f2 y0.f4.f3 y0.f5.f0 y0.f5.f1 y0.f6.f0 y0.f6.f1.f0 y0.f7 y1.f0 y1.f1 y1.f2 hG0 hG1;have hs:al Tryz.prog C 5 (aa.start C 104 [.agg [.sl 191 y0.f0.f0,.sl 3 y0.f1,.sl 3 y0.f2,.int .i64 y0.f3,.int .i64 y0.f4.f0,.int .i64 y0.f4.f1,.int .i64 y0.f4.f2,.int .i64 y0.f4.f3,.int .i64 y0.f5.f0,.int .i64 y0.f5.f1,.int .i64 y0.f6.f0,.sl 3 y0.f6.f1.f0,.int .i64 y0.f7],.agg [.int .i64 y1.f0,.int .i64 y1.f1,.int .i64 y1.f2]] []) 0 (.bool true) []:=(eX.told y0.f0.f0 y0.f1 y0.f2 y0.f3 y0.f4.f0 y0.f4.f1 y0.f4.f2 y0.f4.f3 y0.f5.f0 y0.f5.f1 y0.f6.f0 y0.f6.f1.f0 y0.f7 y1.f0 y1.f1 y1.f2).ok true h;refine(hs.law (w:=W) rfl (by simp) (fun i v hi=> ?_)).mono fun e W' ⟨v,he,⟨N_,bs_,hv⟩,bel⟩=> ?_
 ·match i,hi with
  | 0,hi=>cases hi;exact⟨_,rfl,⟨cs0,rfl,hI0⟩⟩
  | 1,hi=>cases hi;exact⟨_,rfl,⟨cs1,rfl,hI1⟩⟩
  | i+2,hi=>simp at hi
 ·have hv:v= .bool true:=hv;subst hv;subst he;exact⟨_,rfl,_,_,_,[],_,[],hW',trodAll_mk1 (shut_bool Tryz.underlying4 _),(trodAll_cons_mk (Below.trod laidOut (by kernel_rfl) (of_decide_eq_true (by kernel_rfl)) k0 bel lt0) (trodAll_cons_mk (Below.trod laidOut (by kernel_rfl) (of_decide_eq_true (by kernel_rfl)) k1 bel lt1) trodAll_mk0)),rfl,bel.frame _,fun h=>by cases h⟩
theorem Dw:Rows.fnExactDoActRow.holds Tryz.pinned (OpenSpec.ofChange Rows.fnExactDoActSpec):=
 OpenClaim.holds_of_wide 5 Tryz.f5 rfl rfl rfl rfl rfl rfl rfl ⟨rfl,rfl,rfl,rfl,rfl⟩ rfl rfl rfl rfl rfl (by kernel_rfl) Tryz.func5 (by kernel_rfl)
  (of_decide_eq_true (by kernel_rfl)) (by unfold Func.isWrapper;first | (rw[if_pos (by decide+kernel)];kernel_rfl) | (rw[if_neg (by decide+kernel)];exact⟨rfl,rfl⟩))
  (fun os started H enc _=>lifted os started H enc)
end Go.Proofs.YtmapddgocpkgeaaGreat.fnExactDoAct
namespace Go.Proofs.YtmapddgocpkgeaaGreat
theorem fnExactDoAct_holds:Rows.FnExactDoActSaid:=fnExactDoAct.Dw
#print axioms fnExactDoAct_holds
end Go.Proofs.YtmapddgocpkgeaaGreat
