/- The row of the law FnReports: for every input that can be read the law's function returns true, and each argument reads afterwards as it read before. No conditions beside the row's own. -/
import Derived.Test.YtpndhhellhfegaaGreatDoorRows
import Derived.Test.YtpndhhellhfegaaGreatDoorEvLFnReports
import Derived.Test.YtpndhhellhfegaaGreatDoorPureFnReports
import Derived.WalkKit
import Derived.ProofKit
import Derived.OpenShut
import Derived.ShutString
import Derived.ChangeOld
import Derived.Below
import Derived.SizedLaws
import Derived.LaidMore
import Derived.LaidOnce
import Derived.MakeChecks
import Derived.Lib.LaidTab
import Derived.Stop.LaidErr
import Derived.Stop.Joined
import Derived.SevenTiedAt
import Derived.Test.YtpndhhellhfegaaGreatDoorCards
import Derived.Test.YtpndhhellhfegaaGreatDoorTie
namespace Go.Proofs.YtpndhhellhfegaaGreatDoor.fnReports
open Go.ChangeShapes Go.WideShapes Go.ChangeAt Go.RowKit Go.Proofs.YtpndhhellhfegaaGreatDoor.aa Go.Proofs.YtpndhhellhfegaaGreatDoor.Ev
open Go.ChangeMaps (open_string shut_string)
set_option linter.unusedVariables false
theorem own:ownKnob Tryz.prog.godebug=none:=by kernel_rfl
theorem laidOut:laidOutB Tryz.prog=true:=by kernel_rfl
set_option maxRecDepth 100000 in
theorem CO (os:Os) (args:Array Value):laidMetH Tryz.prog Rows.fnReportsRow.laid ((World.doorLaid Tryz.prog 24 os).forCall (fun _ _=>0) ⟨#[],args,[]⟩).memory:=
 laidMetH_of_parts3 (fuel:=8) (laidMet_of_run' 8 (by kernel_rfl) (by kernel_rfl)) (by kernel_rfl) (by kernel_rfl)
set_option maxRecDepth 100000 in
theorem zf {W:World} (h:laidMetH Tryz.prog Rows.fnReportsRow.laid W):Ck W:=by
 rw[Go.MakeChecks.laidMetH_plain _ _ _ (by kernel_rfl)]at h;constructor
 ·exact Lib.tabIs_of_head (g:=0) (by kernel_rfl) (t:=195) (by kernel_rfl) Tryz.underlying195 (by kernel_rfl) (by kernel_rfl) (by kernel_rfl) (h.tail.tail)
set_option maxRecDepth 100000 in
theorem lifted (os:Os) (started:os.Started) (H:Type) (enc:TypeId×Value→H):
 ReturnsInHanded {} Tryz.checked os 4 .any (fun w args=>(Rows.fnReportsSpec.pre enc Tryz.prog Tryz.f4 [] false w args∧laidMetH Tryz.prog Rows.fnReportsRow.laid w)∧sizedMet enc Tryz.prog Tryz.f4 (OpenSpec.ofChange Rows.fnReportsSpec) false w args) (Rows.fnReportsSpec.post enc Tryz.prog Tryz.f4 false true false false):=by
 refine returnsInHanded_of_change_and (C:=Tryz.checked) (X:=fun w _=>laidMetH Tryz.prog Rows.fnReportsRow.laid w) (fun _ _ _ hh h=>h.of_heap hh) own started (by kernel_rfl) Tryz.func4
  (ChangeSpec.witness_shaped (enc:=enc) (C:=Tryz.checked) (os:=os) (X:=fun w _=>laidMetH Tryz.prog Rows.fnReportsRow.laid w) false (World.doorLaid Tryz.prog 24 os) #[.slice none 0 0] 8 rfl (World.shaped_of_RefB (by kernel_rfl) (by kernel_rfl)) (by kernel_rfl) (by kernel_rfl) (by kernel_rfl) (CO os _)) ?_
 intro W base args ds gs before hval0 hW hcnd hsz0 hL _;have htab:=zf hL;have hval:∀(j:Nat) t v,Tryz.f4.params[j]? =some t→args[j]? =some v→Value.okWide Tryz.prog W .any base t v:=hval0;have hW':=hW;obtain⟨p,q,hA0,hV,rfl,hfz,hnd⟩:=hW;have hA:DataW.TrodAll enc Tryz.prog W 0 (fun _=>true) true Tryz.f4.params.toList args.toList ds p:=hA0;rw[Tryz.params4]at hA hval;obtain⟨v0,vs0,d0,ds0,p0,q0,hargs,rfl,rfl,h0,r0⟩:=trodAll_cons hA;obtain⟨rfl,rfl,rfl⟩:=trodAll_nil r0;obtain rfl:args= #[v0]:=by cases args;simp_all
 obtain⟨rfl,rfl⟩:=trodVars_none hV;have k0:=h0;have lt0:∀x∈p0,x.block<W.heap.size:=by obtain⟨m,hm⟩:=k0;exact DataW.trod_lt m _ _ _ hm
 obtain⟨a0,len0,cap0,rfl⟩:=okWide_slice Tryz.underlying55 (hval 0 55 v0 rfl rfl);obtain⟨fu0,hf0⟩:=h0;obtain⟨y0,hI0,hG0⟩:=(xQ (e:=5) G (g:=(fun n_:Int=>(Lit.int .u8 n_).wf=true)) Tryz.underlying55 (by kernel_rfl) (Nat.lt_of_lt_of_eq (by decide:0<1) (by kernel_rfl)) (AT Tryz.underlying5)).out enc W _ _ _ _ _ hf0;clear hA0 hval0 hsz0;have h:=Pure.FnReports y0 hG0;have hs:ah Tryz.prog C 4 (aa.start C 47 [.sl 5 y0] []) 0 (.bool true) []:=(cF.told y0).ok true h;refine(hs.law (w:=W) rfl (by simp) (fun i v hi=> ?_) ⟨htab,fun g hg=>⟨Eg W htab g hg,fun h=>h⟩⟩).mono fun e W' ⟨v,he,⟨N_,bs_,hv⟩,bel⟩=> ?_
 ·match i,hi with
  | 0,hi=>cases hi;exact⟨_,rfl,Ch (u:=Value.slice a0 len0 cap0) hI0⟩
  | i+1,hi=>simp at hi
 ·have hv:v= .bool true:=hv;subst hv;subst he;exact⟨_,rfl,_,_,_,[],_,[],hW',trodAll_mk1 (shut_bool Tryz.underlying4 _),(trodAll_cons_mk (Below.trod laidOut (by kernel_rfl) (of_decide_eq_true (by kernel_rfl)) k0 bel lt0) trodAll_mk0),rfl,bel.frame _,fun h=>by cases h⟩
theorem over:Rows.fnReportsRow.holds Tryz.pinned (OpenSpec.ofChange Rows.fnReportsSpec):=
 OpenClaim.holds_of_wide 4 Tryz.f4 rfl rfl rfl rfl rfl rfl rfl ⟨rfl,rfl,rfl,rfl,rfl⟩ rfl rfl rfl rfl rfl (by kernel_rfl) Tryz.func4 (by kernel_rfl)
  (of_decide_eq_true (by kernel_rfl)) (by unfold Func.isWrapper;first | (rw[if_pos (by decide+kernel)];kernel_rfl) | (rw[if_neg (by decide+kernel)];exact⟨rfl,rfl⟩))
  (fun os started H enc _=>lifted os started H enc)
end Go.Proofs.YtpndhhellhfegaaGreatDoor.fnReports
namespace Go.Proofs.YtpndhhellhfegaaGreatDoor
theorem fnReports_holds:Rows.FnReportsSaid:=fnReports.over
theorem fnReports_card:Rows.FnReportsCardSaid:=
 Claim7.holds_tied_plain_at .later [] _ true _ false fnReports_holds (fun _ h=>by cases h) (by kernel_rfl) (fun _ h=>by cases h) fnReports_row_tie rfl ⟨rfl,rfl⟩ (by kernel_rfl) rfl
  (fun f fn hf hfn=>by
   obtain rfl:f=4:=Option.some.inj ((show Tryz.prog.funcNamed Rows.fnReportsRow.func=some 4 by kernel_rfl).symm.trans hf) |>.symm;obtain rfl:fn=Tryz.f4:=(Option.some.inj (Tryz.func4.symm.trans hfn)).symm
   exact⟨by kernel_rfl,fun j t ht=>by
    have hall:(Tryz.f4.params.all fun u=> !Tryz.prog.wantsStandIn u)=true:=by kernel_rfl
    have hm:t∈Tryz.f4.params:=Array.mem_of_getElem? ht;exact(show Tryz.prog.wantsStandIn t=false by simpa using (Array.all_eq_true_iff_forall_mem.1 hall) t hm)⟩)
  (by kernel_rfl)
#print axioms fnReports_card
end Go.Proofs.YtpndhhellhfegaaGreatDoor
