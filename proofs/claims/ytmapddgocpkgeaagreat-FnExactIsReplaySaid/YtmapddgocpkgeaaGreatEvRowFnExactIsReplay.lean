/- The row of the law FnExactIsReplay: for every input that can be read the law's function returns true, and each argument reads afterwards as it read before. No conditions beside the row's own. -/
import Derived.Test.YtmapddgocpkgeaaGreatRows
import Derived.Test.YtmapddgocpkgeaaGreatEvLFnExactIsReplay
import Derived.Test.YtmapddgocpkgeaaGreatPureFnExactIsReplay
import Derived.WalkKit
import Derived.ProofKit
import Derived.OpenShut
import Derived.ShutString
import Derived.ChangeOld
import Derived.Below
import Derived.SizedLaws
namespace Go.Proofs.YtmapddgocpkgeaaGreat.fnExactIsReplay
open Go.ChangeShapes Go.WideShapes Go.ChangeAt Go.RowKit Go.Proofs.YtmapddgocpkgeaaGreat.aa Go.Proofs.YtmapddgocpkgeaaGreat.Ev
open Go.ChangeMaps (open_string shut_string)
set_option linter.unusedVariables false
theorem own:ownKnob Tryz.prog.godebug=none:=by kernel_rfl
theorem laidOut:laidOutB Tryz.prog=true:=by kernel_rfl
set_option maxRecDepth 100000 in
theorem lifted (os:Os) (started:os.Started) (H:Type) (enc:TypeId×Value→H):
 ReturnsInHanded {} Tryz.checked os 7 .any (Rows.fnExactIsReplaySpec.pre6 enc Tryz.prog Tryz.f7 Rows.fnExactIsReplayRow.domain false) (Rows.fnExactIsReplaySpec.post enc Tryz.prog Tryz.f7 false true false false):=by
 refine returnsInHanded_of_change_sized (C:=Tryz.checked) own started (by kernel_rfl) Tryz.func7
  (ChangeSpec.witness6 (enc:=enc) (C:=Tryz.checked) false ⟨#[], #[(.agg #[.slice none 0 0,.slice none 0 0,.slice none 0 0,.int .i64 0,.int .i64 0,.int .i64 0,.int .i64 0,.int .i64 0,.int .i64 0,.int .i64 0,.int .i64 0,.slice none 0 0,.int .i64 0]),.slice none 0 0,.slice none 0 0],[]⟩ 8 (by kernel_rfl) (by kernel_rfl) (by kernel_rfl) (by kernel_rfl)) ?_
 intro W base args ds gs before hval0 hW hcnd hsz0 _;have hval:∀(j:Nat) t v,Tryz.f7.params[j]? =some t→args[j]? =some v→Value.okWide Tryz.prog W .any base t v:=hval0;have hW':=hW;obtain⟨p,q,hA0,hV,rfl,hfz,hnd⟩:=hW;have hA:DataW.TrodAll enc Tryz.prog W 0 (fun _=>true) true Tryz.f7.params.toList args.toList ds p:=hA0;rw[Tryz.params7]at hA hval;obtain⟨v0,vs0,d0,ds0,p0,q0,hargs,rfl,rfl,h0,r0⟩:=trodAll_cons hA;obtain⟨v1,vs1,d1,ds1,p1,q1,rfl,rfl,rfl,h1,r1⟩:=trodAll_cons r0;obtain⟨v2,vs2,d2,ds2,p2,q2,rfl,rfl,rfl,h2,r2⟩:=trodAll_cons r1;obtain⟨rfl,rfl,rfl⟩:=trodAll_nil r2;obtain rfl:args= #[v0,v1,v2]:=by cases args;simp_all
 obtain⟨rfl,rfl⟩:=trodVars_none hV;have k0:=h0;have lt0:∀x∈p0,x.block<W.heap.size:=by obtain⟨m,hm⟩:=k0;exact DataW.trod_lt m _ _ _ hm
 obtain⟨cs0,rfl,_⟩:=okWide_struct Tryz.underlying57 (hval 0 57 v0 rfl rfl);obtain⟨fu0,hf0⟩:=h0;obtain⟨y0,hI0,hG0⟩:=DD.out enc W _ _ _ _ _ hf0;have k1:=h1;have lt1:∀x∈p1,x.block<W.heap.size:=by obtain⟨m,hm⟩:=k1;exact DataW.trod_lt m _ _ _ hm
 obtain⟨a1,len1,cap1,rfl⟩:=okWide_slice Tryz.underlying70 (hval 1 70 v1 rfl rfl);obtain⟨fu1,hf1⟩:=h1;obtain⟨y1,hI1,hG1⟩:=(iJ (e:=64) G (g:=DY) Tryz.underlying70 (by kernel_rfl) (Nat.lt_of_lt_of_eq (by decide:0<3) (by kernel_rfl)) DI).out enc W _ _ _ _ _ hf1;have k2:=h2;have lt2:∀x∈p2,x.block<W.heap.size:=by obtain⟨m,hm⟩:=k2;exact DataW.trod_lt m _ _ _ hm
 obtain⟨a2,len2,cap2,rfl⟩:=okWide_slice Tryz.underlying27 (hval 2 27 v2 rfl rfl);obtain⟨fu2,hf2⟩:=h2;obtain⟨y2,hI2,hG2⟩:=(iJ (e:=3) G (g:=(fun n_:Int=>(Lit.int .i64 n_).wf=true)) Tryz.underlying27 (by kernel_rfl) (Nat.lt_of_lt_of_eq (by decide:0<1) (by kernel_rfl)) (bP Tryz.underlying3)).out enc W _ _ _ _ _ hf2;clear hA0 hval0 hsz0;have h:=Pure.FnExactIsReplay y0.f0.f0 y0.f1 y0.f2 y0.f3 y0.f4.f0 y0.f4.f1 y0.f4.f2 y0.f4.f3 y0.f5.f0 y0.f5.f1 y0.f6.f0 y0.f6.f1.f0 y0.f7 y1 y2 hG0 hG1 hG2;have hs:al Tryz.prog C 7 (aa.start C 61 [.agg [.sl 191 y0.f0.f0,.sl 3 y0.f1,.sl 3 y0.f2,.int .i64 y0.f3,.int .i64 y0.f4.f0,.int .i64 y0.f4.f1,.int .i64 y0.f4.f2,.int .i64 y0.f4.f3,.int .i64 y0.f5.f0,.int .i64 y0.f5.f1,.int .i64 y0.f6.f0,.sl 3 y0.f6.f1.f0,.int .i64 y0.f7],.sl 64 y1,.sl 3 y2] []) 0 (.bool true) []:=(eQ.told y0.f0.f0 y0.f1 y0.f2 y0.f3 y0.f4.f0 y0.f4.f1 y0.f4.f2 y0.f4.f3 y0.f5.f0 y0.f5.f1 y0.f6.f0 y0.f6.f1.f0 y0.f7 y1 y2).ok true h;refine(hs.law (w:=W) rfl (by simp) (fun i v hi=> ?_)).mono fun e W' ⟨v,he,⟨N_,bs_,hv⟩,bel⟩=> ?_
 ·match i,hi with
  | 0,hi=>cases hi;exact⟨_,rfl,⟨cs0,rfl,hI0⟩⟩
  | 1,hi=>cases hi;exact⟨_,rfl,zD (u:=Value.slice a1 len1 cap1) hI1⟩
  | 2,hi=>cases hi;exact⟨_,rfl,zD (u:=Value.slice a2 len2 cap2) hI2⟩
  | i+3,hi=>simp at hi
 ·have hv:v= .bool true:=hv;subst hv;subst he;exact⟨_,rfl,_,_,_,[],_,[],hW',trodAll_mk1 (shut_bool Tryz.underlying4 _),(trodAll_cons_mk (Below.trod laidOut (by kernel_rfl) (of_decide_eq_true (by kernel_rfl)) k0 bel lt0) (trodAll_cons_mk (Below.trod laidOut (by kernel_rfl) (of_decide_eq_true (by kernel_rfl)) k1 bel lt1) (trodAll_cons_mk (Below.trod laidOut (by kernel_rfl) (of_decide_eq_true (by kernel_rfl)) k2 bel lt2) trodAll_mk0))),rfl,bel.frame _,fun h=>by cases h⟩
theorem Dw:Rows.fnExactIsReplayRow.holds Tryz.pinned (OpenSpec.ofChange Rows.fnExactIsReplaySpec):=
 OpenClaim.holds_of_wide 7 Tryz.f7 rfl rfl rfl rfl rfl rfl rfl ⟨rfl,rfl,rfl,rfl,rfl⟩ rfl rfl rfl rfl rfl (by kernel_rfl) Tryz.func7 (by kernel_rfl)
  (of_decide_eq_true (by kernel_rfl)) (by unfold Func.isWrapper;first | (rw[if_pos (by decide+kernel)];kernel_rfl) | (rw[if_neg (by decide+kernel)];exact⟨rfl,rfl⟩))
  (fun os started H enc _=>lifted os started H enc)
end Go.Proofs.YtmapddgocpkgeaaGreat.fnExactIsReplay
namespace Go.Proofs.YtmapddgocpkgeaaGreat
theorem fnExactIsReplay_holds:Rows.FnExactIsReplaySaid:=fnExactIsReplay.Dw
#print axioms fnExactIsReplay_holds
end Go.Proofs.YtmapddgocpkgeaaGreat
