/- The evaluator's operations against the model's, on: append. Conditions: 'Good'. -/
import Derived.Test.YtmapddgocpkgeaaGreatLibA
import Derived.Calls
import Derived.Great.BuildSlice
import Derived.Orders
namespace Go.Proofs.YtmapddgocpkgeaaGreat.aa
open Go.RowKit
set_option linter.unusedVariables false
set_option linter.unusedSimpArgs false
variable {P:Program} {C:Ctx}
section
variable {B:fK} {n:Nat} {S:St C} {d:Nat} {V:Nat→Value} {a:Act} {w:World} {N:Nat→Prop} {bs:ao→Nat→Prop}
def ln (bs:ao→Nat→Prop):Option ao→Nat→Prop
 | some q=>bs q
 | none=>fun _=>False
theorem je.uk (h:je P C B n S d V a w N bs) {s:Operand} (hs:aT n s=true) {t:TypeId} {dp:Bool} {r:Option ao} {e:TypeId} {xs:List (C.U.T e)} (hr:rowOf C S (bG s) (aa.ev C S t s)=some ⟨some (dp,r),e,xs⟩):
 fk C w N (ln bs r) dp e xs (a.eval s)∧∀q,r=some q→look S q= .own dp e xs:=by
 cases r with
 | some q=>
   obtain⟨hrow,hl⟩:=(h.row hs hr undef).2 dp q rfl;obtain⟨c',hc',hrep⟩:=eH.look (h.rel undef) q (cc hrow.1);rw[hrow.2]at hc';cases hc';rw[hl]at hrep;exact⟨hrep,fun q' hq=>by cases hq;exact hl⟩
 | none=>
   refine⟨?_,fun q hq=>by cases hq⟩;have hrep:=h.ev hs t undef;unfold rowOf at hr;split at hr
   ·cases hr
   ·rename_i dp' e' xs' he;simp only[Option.some.injEq,Row.mk.injEq,Prod.mk.injEq]at hr;cases s with
    | tmp q=>simp[bG]at hr
    | const v=>
      obtain⟨⟨rfl,_⟩,rfl,hx⟩:=hr;cases eq_of_heq hx;rw[he]at hrep;exact hrep
    | func f=>cases he
    | global g=>cases he
   ·split at hr<;>cases hr
   ·cases hr
theorem je.dropped (h:je P C B n S d V a w N bs) {r:Option ao} {dp:Bool} {e:TypeId} {xs:List (C.U.T e)} (hl:∀q,r=some q→look S q= .own dp e xs):
 (∀c,Rel C B (iD S r) (jJ V d c) w N bs)∧get (iD S r) d= .undef∧(∀q,r=some q→look (iD S r) q= .undef∧fN (iD S r) q)∧∀q',isRow (look S q')=true→r≠some q'→look (iD S r) q'=look S q':=by
 cases r with
 | none=>exact⟨h.rel,h.vU,(fun q h=>by cases h),fun q' _ _=>rfl⟩
 | some q=>
   have hr:=ik (hl q rfl);exact⟨fun c=>(h.rel c).drop q hr,uW h.vU hr,(fun q' h=>by cases h;exact ke hr),fun q' hq' hne=>kb hr hq' (fun e=>hne (by rw[e]))⟩
theorem nH {V:Nat→Value} (h:Rel C B S V w N bs) {q q':ao} (hr:isRow (look S q')=true) (hu:look S q= .undef) (ho:fN S q) (hne:q≠q'):look (drop S q') q= .undef:=by
 obtain⟨h1,h2⟩:=eH.kF h (f:=forget (fun r=>r==q') (fun _=>false)) (fun v hv=>gO _ _ hv) (fun v=>l8 _ _ v) q ho;unfold drop;rw[jN _ (tZ hr) h2 hne,h1,hu];rfl
theorem zU {e e':TypeId} {zs:List (C.U.T e')} {ys:List (C.U.T e)} (h:rF C e e' zs=some ys):e'=e∧HEq zs ys:=by
 unfold rF at h;split at h
 ·rename_i he;subst he;cases h;exact⟨rfl,HEq.rfl⟩
 ·cases h
theorem xP (h:je P C B n S d V a w N bs) {o:Oper} {c:Call} {t t':TypeId} {s x:Operand} (ho:o.op= .call c) (hcl:c.callee= .builtin .append) (hargs:c.args.toList=[s,x]) (htys:c.argTypes.toList=[t,t']) (hs:aT n s=true) (hx:aT n x=true)
 {dp:Bool} {r:Option ao} {e:TypeId} {xs:List (C.U.T e)} (hrow:rowOf C S (bG s) (aa.ev C S t s)=some ⟨some (dp,r),e,xs⟩) (hts:iK C t e=true) {p:Option Prop} {S':St C} (he:sd C S d dp r e xs t t' (bG x) (aa.ev C S t x)=some (p,S')) (hp:p.getD True):Out P C B S' d V a o w:=by
 have hargs:c.args= #[s,x]:=by rw[←Array.toArray_toList (xs:=c.args),hargs]
 have htys:c.argTypes= #[t,t']:=by rw[←Array.toArray_toList (xs:=c.argTypes),htys]
 have G:=h.gD;obtain⟨hu,hT⟩:=G.jY hts;obtain⟨hown,hlook⟩:=h.uk hs hrow;obtain⟨hrel0,hund0,hlk0,hkeep0⟩:=h.dropped hlook;unfold sd at he;split at he
 ·rename_i e' ys hread;split at he
  ·cases he
  rename_i htt;have htt:t'=t:=by simpa using htt
  subst htt;split at he
  ·rename_i ys' hys;obtain⟨he',hzs⟩:=zU hys;subst he';cases hzs
   have hp':((xs.length:Int)+ys.length)*C.bytes e'≤room:=by
    split at he
    ·split at he
     ·cases he
     ·split at he<;>(cases he;exact hp)
    ·cases he;exact hp
   obtain⟨_,him⟩:=h.read hx hread;have him:=him rfl;obtain⟨i,z,hi,hz,hsz,hby,hzs,hpos,hbpos,hall⟩:=G.elem _ _ hT;obtain⟨xs0,lab,hox,hblk,hleafx⟩:=hown.ownsRow G
   have run:∀{Q:Nat→Nat→C.PV→Value→Prop},xY C w e' ys (a.eval x) Q→∃v' w' news,(execOp a.eval o).run P w= .ok (.value v') w'∧w'.ownsRow 0 e' (C.sz e') v' (xs.length+ys.length) (xs0++news)∧w.grownBy w' (a.eval s).ownBlock∧(v'.ownBlock=(a.eval s).ownBlock∨v'.ownBlock=some w.heap.size)∧
    ∀j y,ys[j]? =some y→∀i v,(leaves (C.enc e' y))[i]? =some v→∃u,news[j*C.sz e'+i]? =some u∧Q j i v u:=fun hn=>by
    obtain⟨v',w',news,hr,h1,h2,h3,h4⟩:=tE G w (ty:=o.type) hT hox hn hp';exact⟨v',w',news,by simp only[execOp,ho,resolve,hcl,hargs,Sem.run_bind,Sem.run_pure,Result.andThen_ok,invoke,builtin,htys,List.map_toArray,List.map_cons,List.map_nil,hr],h1,h2,h3,h4⟩
   have kept:∀w',w.grownBy w' (a.eval s).ownBlock→Kept B w':=fun w' hg=>(h.rel undef).kept.grown hg (fun b hb=>by
    have:=(hblk b hb).1;cases r with
    | none=>exact this.elim
    | some q=>exact((h.rel undef).own q b this).2.2)
   have ownlt:∀b,ln bs r b→¬N b∧b<w.heap.size:=fun b hb=>by
    cases r with
    | none=>exact hb.elim
    | some q=>exact⟨((h.rel undef).own q b hb).1,((h.rel undef).own q b hb).2.1⟩
   cases hdeep:gp C e' with
   | false=>
     have hflat:∀(y:C.U.T e') (i:Nat) (v:C.PV),(leaves (C.enc e' y))[i]? =some v→∀(f:TypeId) (zs:List (C.U.T f)),v≠PV.sl f zs:=fun y i v hv=>G.jg e' hdeep y v (List.mem_of_getElem? hv);obtain⟨v',w',news,hrun,hown',hg,hblk',hnews⟩:=run (him.news G hpos);have hlen:(xs++ys).length=xs.length+ys.length:=List.length_append
     obtain⟨bs',hR⟩:=(hrel0 v').jB (w':=w') d hund0 (fun q=>r=some q) (fun q hq=>(hlk0 q hq).1) (fun b hb hnb=>hg.block b hb (fun e=>by
      have:=(hblk b e.symm).1;cases r with
      | none=>exact this.elim
      | some q=>exact hnb q rfl this)) hg.size (kept w' hg) (N':=N) (Bd:=fun b=>ln bs r b∨(w.heap.size≤b∧b<w'.heap.size)) (fun _ h=>h) (fun _ h=> .inl h)
      (fun b hb=>hb.imp (fun hb=>by
       cases r with
       | none=>exact hb.elim
       | some q=>exact⟨q,rfl,hb⟩) id) (fun b hb hn=>hb.elim (fun hb=>(ownlt b hb).1 hn) (fun hb=>by have:=((h.rel undef).kd b hn).1;omega))
      (dp:=true) (e:=e') (xs:=xs++ys) (by
       rw[fp];refine tM G (lab:=fun _=>none) (zs0:=xs0++news) (by rw[hlen];exact hown') (fun b hb=>⟨?_,rfl⟩) (lR G hox.1 (fun j x hx i v hi=> ?_) (fun j y hy i v hi=> ?_))
       ·rcases hblk' with e | e
        ·rw[e]at hb;exact .inl (hblk b hb).1
        ·rw[e]at hb;cases hb;exact .inr ⟨Nat.le_refl _,(hown'.lt _ e).2⟩
       ·obtain⟨u,hu,hin⟩:=hleafx j x hx i v hi;exact⟨u,hu,hin.scalar (hflat x i v hi)⟩
       ·obtain⟨u,hu,hin⟩:=hnews j y hy i v hi;exact⟨u,hu,nI.scalar (dp:=false) (Bo:=fun _=>False) hin (hflat y i v hi)⟩)
     rw[if_neg (by simp[hdeep])]at he;cases he;exact⟨v',w',N,bs',hrun,hR⟩
   | true=>
     rw[if_pos hdeep]at he;split at he
     ·cases he
     rename_i hin;have hnq:∀q,r=some q→q ∉ aZ C (bG x) (aa.ev C S t' x):=fun q hq hm=>hin (by subst hq;simpa [AN]using hm);have hlen:(xs++ys).length=xs.length+ys.length:=List.length_append;split at he
     ·rename_i hgift;cases he;rw[Bool.and_eq_true]at hgift;obtain⟨hdp,hgx⟩:=hgift;subst hdp
      have hev:∃e2 zs2,aa.ev C S t' x= .own true e2 zs2:=by
       unfold BU at hgx;split at hgx
       ·exact⟨_,_,by assumption⟩
       ·cases hgx
      obtain⟨e2,zs2,hev⟩:=hev;rw[hev]at hread;cases(show some (PV.sl e2 zs2:C.PV)=some (.sl e' ys)from hread);obtain⟨rx,hrx⟩:∃rx:Option ao,rx=(bG x).map fun t=>(t,[]):=⟨_,rfl⟩;have hrowx:rowOf C S (bG x) (aa.ev C S t' x)=some ⟨some (true,rx),e',ys⟩:=by rw[hev,hrx];rfl
      obtain⟨hownx,hlookx⟩:=h.uk hx hrowx;have hrs:aZ C (bG x) (aa.ev C S t' x)=rx.toList:=by rw[hev,hrx];cases bG x<;>rfl
      have hdr:gr C (iD S r) (aZ C (bG x) (aa.ev C S t' x))=iD (iD S r) rx:=by rw[hrs];cases rx<;>rfl
      rw[hdr];obtain⟨labx,hnx⟩:=hownx.news G hpos;obtain⟨v',w',news,hrun,hown',hg,hblk',hnews⟩:=run hnx;have hne:∀q q',r=some q→rx=some q'→q≠q':=fun q q' hq hq' e=>hnq q hq (by rw[hrs,hq',e];simp)
      have hrel1:Rel C B (iD (iD S r) rx) (jJ V d v') w N bs∧get (iD (iD S r) rx) d= .undef∧∀q,r=some q∨rx=some q→look (iD (iD S r) rx) q= .undef:=by
       cases rx with
       | none=>exact⟨hrel0 v',hund0,fun q hq=>hq.elim (fun hq=>(hlk0 q hq).1) (fun hq=>by cases hq)⟩
       | some q'=>
         have hl':isRow (look (iD S r) q')=true:=by rw[hkeep0 q' (by rw[hlookx q' rfl];rfl) (fun e=>hne q' q' e rfl rfl),hlookx q' rfl];rfl
         refine⟨(hrel0 v').drop q' hl',uW hund0 hl',fun q hq=> ?_⟩;rcases hq with hq | hq
         ·exact nH (hrel0 v') hl' (hlk0 q hq).1 (hlk0 q hq).2 (hne q q' hq rfl)
         ·cases hq;exact(ke hl').1
      obtain⟨hR1,hund1,hlk1⟩:=hrel1
      have hdisj:∀b,ln bs r b→¬ln bs rx b:=fun b hb hb'=>by
       cases r with
       | none=>exact hb.elim
       | some q=>cases rx with
         | none=>exact hb'.elim
         | some q'=>exact hne q q' rfl rfl ((h.rel undef).km q q' b hb hb')
      have ownltx:∀b,ln bs rx b→¬N b∧b<w.heap.size:=fun b hb=>by
       cases rx with
       | none=>exact hb.elim
       | some q=>exact⟨((h.rel undef).own q b hb).1,((h.rel undef).own q b hb).2.1⟩
      have hAt:∀b,ln bs r b∨ln bs rx b→∃q,(r=some q∨rx=some q)∧bs q b:=fun b hb=>by
       rcases hb with hb | hb
       ·cases r with
        | none=>exact hb.elim
        | some q=>exact⟨q,.inl rfl,hb⟩
       ·cases rx with
        | none=>exact hb.elim
        | some q=>exact⟨q,.inr rfl,hb⟩
      classical
      let lab':Nat→Option (Nat×Nat):=fun b=>if ln bs r b then lab b else if ln bs rx b then(labx b).map (fun p=>(xs.length+p.1,p.2))else none
      have hNsame:∀b,N b→w'.heap[b]? =w.heap[b]? :=fun b hb=>hg.block b ((h.rel undef).kd b hb).1 (fun e=>(ownlt b (hblk b e.symm).1).1 hb)
      obtain⟨bs',hR⟩:=hR1.jB (w':=w') d hund1 (fun q=>r=some q∨rx=some q) hlk1 (fun b hb hnb=>hg.block b hb (fun e=>by
       obtain⟨q,hq,hb'⟩:=hAt b (.inl (hblk b e.symm).1);exact hnb q hq hb')) hg.size (kept w' hg) (N':=N) (Bd:=fun b=>(ln bs r b∨ln bs rx b)∨(w.heap.size≤b∧b<w'.heap.size)) (fun _ h=>h) (fun _ h=> .inl h)
       (fun b hb=>hb.imp (hAt b) id) (fun b hb hn=>hb.elim (fun hb=>hb.elim (fun hb=>(ownlt b hb).1 hn) (fun hb=>(ownltx b hb).1 hn)) (fun hb=>by have:=((h.rel undef).kd b hn).1;omega))
       (dp:=true) (e:=e') (xs:=xs++ys) (by
        rw[fp];refine tM G (lab:=lab') (zs0:=xs0++news) (by rw[hlen];exact hown') (fun b hb=> ?_) (lR G hox.1 (fun j x hx i v hi=> ?_) (fun j y hy i v hi=> ?_))
        ·rcases hblk' with e | e
         ·rw[e]at hb;obtain⟨k1,k2⟩:=hblk b hb;exact⟨.inl (.inl k1),by simp only[lab',if_pos k1];exact k2⟩
         ·rw[e]at hb;cases hb;refine⟨.inr ⟨Nat.le_refl _,(hown'.lt _ e).2⟩,?_⟩;have n1:¬ln bs r w.heap.size:=fun hb=>by have:=(ownlt _ hb).2;omega
          have n2:¬ln bs rx w.heap.size:=fun hb=>by have:=(ownltx _ hb).2;omega
          simp only[lab',if_neg n1,if_neg n2]
        ·obtain⟨u,hu,hin⟩:=hleafx j x hx i v hi;refine⟨u,hu,hin.move (fun b hb=>hb.elim (hNsame b) (fun hb=>hg.block b (ownlt b hb.1).2 (fun e=>by rw[(hblk b e.symm).2]at hb;cases hb.2))) (fun _ h=>h) (fun b hb=>⟨.inl (.inl hb.1),?_⟩)⟩;simp only[lab',if_pos hb.1];exact hb.2
        ·obtain⟨u,hu,hin⟩:=hnews j y hy i v hi;refine⟨u,hu,hin.move (fun b hb=>hb.elim (hNsame b) (fun hb=>hg.block b (ownltx b hb.1).2 (fun e=>hdisj b (hblk b e.symm).1 hb.1))) (fun _ h=>h) (fun b hb=>⟨.inl (.inr hb.1),?_⟩)⟩;have n1:¬ln bs r b:=fun hb'=>hdisj b hb' hb.1;simp only[lab',if_neg n1,if_pos hb.1,hb.2,Option.map_some])
      exact⟨v',w',N,bs',hrun,hR⟩
     ·cases he;obtain⟨v',w',news,hrun,hown',hg,hblk',hnews⟩:=run (him.news G hpos);obtain⟨N1,bs1,hR1,hN1,hice,hsub,hrest,hn1⟩:=(hrel0 v').ij (aZ C (bG x) (aa.ev C S t' x))
      have hbs1:∀b,ln bs r b→∃q,r=some q∧bs1 q b:=fun b hb=>by
       cases r with
       | none=>exact hb.elim
       | some q=>exact⟨q,rfl,hrest q b (hnq q rfl) hb⟩
      have hbeh:∀b,behind S N bs (aZ C (bG x) (aa.ev C S t' x)) b→N1 b:=fun b hb=>hb.elim (hN1 b) (fun⟨r',hr',⟨dp',ty,zs,hl⟩,hb⟩=>
       hice r' hr' ⟨dp',ty,zs,by rw[hkeep0 r' (by rw[hl];rfl) (fun e=>hnq r' e hr')];exact hl⟩ b hb)
      have hdis1:∀b,ln bs r b→¬N1 b:=fun b hb hn=>by
       rcases hn1 b hn with hn | ⟨r',hr',hb'⟩
       ·exact(ownlt b hb).1 hn
       ·cases r with
        | none=>exact hb.elim
        | some q=>exact hnq q rfl (by rw[(h.rel undef).km q r' b hb hb'];exact hr')
      have hN1lt:∀b,N1 b→b<w.heap.size:=fun b hb=>(hR1.kd b hb).1
      let N':Nat→Prop:=fun b=>N1 b∨(ln bs r b∧lab b≠none)
      have hN'lt:∀b,N' b→b<w.heap.size:=fun b hb=>hb.elim (hN1lt b) (fun hb=>(ownlt b hb.1).2)
      have hsame:∀b,N' b→w'.heap[b]? =w.heap[b]? :=fun b hb=>hg.block b (hN'lt b hb) (fun e=>by
       obtain⟨k1,k2⟩:=hblk b e.symm;exact hb.elim (hdis1 b k1) (fun hb=>hb.2 k2))
      obtain⟨bs',hR⟩:=hR1.jB (w':=w') d (ni _ hund0) (fun q=>r=some q) (fun q hq=>(l7 _ (hlk0 q hq).1 (hlk0 q hq).2).1) (fun b hb hnb=>hg.block b hb (fun e=>by
       obtain⟨q,hq,hb'⟩:=hbs1 b (hblk b e.symm).1;exact hnb q hq hb')) hg.size (kept w' hg) (N':=N') (Bd:=fun b=>(ln bs r b∧lab b=none)∨(w.heap.size≤b∧b<w'.heap.size)) (fun _ h=> .inl h) (fun b hb=>hb.imp id (fun hb=>hbs1 b hb.1))
       (fun b hb=>hb.imp (fun hb=>hbs1 b hb.1) id) (fun b hb hn=>hb.elim (fun hb=>hn.elim (hdis1 b hb.1) (fun hn=>hn.2 hb.2)) (fun hb=>by have:=hN'lt b hn;omega))
       (dp:=false) (e:=e') (xs:=xs++ys) (by
        rw[fp];refine tM G (lab:=fun _=>none) (zs0:=xs0++news) (by rw[hlen];exact hown') (fun b hb=>⟨?_,rfl⟩) (lR G hox.1 (fun j x hx i v hi=> ?_) (fun j y hy i v hi=> ?_))
        ·rcases hblk' with e | e
         ·rw[e]at hb;exact .inl (hblk b hb)
         ·rw[e]at hb;cases hb;exact .inr ⟨Nat.le_refl _,(hown'.lt _ e).2⟩
        ·obtain⟨u,hu,hin⟩:=hleafx j x hx i v hi;exact⟨u,hu,gC.mono (hin.Co (N':=N') (fun b hb=> .inl (hN1 b hb)) (fun b hb=> .inr ⟨hb.1,by rw[hb.2];simp⟩)) hsame (fun _ h=>h)⟩
        ·obtain⟨u,hu,hin⟩:=hnews j y hy i v hi;exact⟨u,hu,gC.mono (gC.mono hin (fun _ _=>rfl) (fun b hb=>(.inl (hbeh b hb):N' b))) hsame (fun _ h=>h)⟩)
      exact⟨v',w',N',bs',hrun,hR⟩
  ·cases he
 ·cases he
end
end Go.Proofs.YtmapddgocpkgeaaGreat.aa
namespace Go.Proofs.YtmapddgocpkgeaaGreat.aa
open Go.RowKit
set_option linter.unusedVariables false
set_option linter.unusedSimpArgs false
variable {P:Program} {C:Ctx}
theorem rY (w:World) (base:Nat) (t ti ty e:TypeId) (i:TypeInfo) (z:Value) (size bytes:Nat) (ht:P.underlying t=some (.slice e)) {k:IntKind} (hti:P.underlying ti=some (.int k)) (hi:P.info? e=some i) (hz:i.zero=some z)
 (hsize:i.size=size) (hby:i.bytes=bytes) (hzs:z.cells.size=size) (hsz:0<size) (hb0:0<bytes)
 (v:Value) (n:Nat) (xs:List Value) (hown:w.ownsRow base e size v n xs) (kx:IntKind) (m:Nat) (h1:∀u∈(Builtin.zeroCells z.cells m).toList,u.oneCell'=true)
 (hbytes:(n+m)*bytes≤140737488355328) (hbase:base≤w.heap.size):
 ∃v' w',(Builtin.append_ #[t,ti] ty #[v,.int kx m]).run P w= .ok v' w'∧w'.ownsRow base e size v' (n+m) (xs++(Builtin.zeroCells z.cells m).toList)∧w.grownBy w' v.ownBlock∧
  (v'.ownBlock=v.ownBlock∨v'.ownBlock=some w.heap.size):=by
 subst hsize;subst hby;have hle:n+m≤140737488355328:=Nat.le_trans (Nat.le_mul_of_pos_right _ hb0) hbytes;have h63:n+m≤maxLen:=by simp only[maxLen];omega
 have hw:IntKind.i64.wrap (m:Int)=m:=by rw[IntKind.wrap_i64];omega
 have hw0:IntKind.i64.wrap 0=0:=by rw[IntKind.wrap_i64];rfl
 have hneg:¬((m:Int)<0):=by omega
 have hmb:m*i.bytes≤140737488355328:=Nat.le_trans (Nat.mul_le_mul_right _ (Nat.le_add_left m n)) hbytes
 have hbig:¬(281474976710656<(m:Int)*(i.bytes:Int)):=by
  rw[←Int.natCast_mul];omega
 have hsn:i.size≠0:=by omega
 obtain⟨news,hnews⟩:∃news,news=(Builtin.zeroCells z.cells m).toList:=⟨_,rfl⟩;rw[←hnews]at h1⊢;have hl:news.length=m*i.size:=by rw[hnews,Array.length_toList,size_zeroCells,hzs]
 have hna:Builtin.zeroCells z.cells m=news.toArray:=by rw[hnews]
 have hlen:(xs++news).length=(n+m)*i.size:=by rw[List.length_append,hown.1,hl,Nat.add_mul]
 have hnil:m=0→news=[]:=fun h=>List.eq_nil_of_length_eq_zero (by rw[hl,h,Nat.zero_mul])
 have grown:∀(zq:Nat),zq<n+m→∀(row:Option Nat),
  (w.drew.alloc (.cells (xs.toArray++news.toArray++Builtin.zeroCells z.cells (grownCap w (n+m) zq e-(n+m))) e)).ownsRow base e i.size
   (.slice (some ⟨w.heap.size,0,none⟩) (n+m) (grownCap w (n+m) zq e)) (n+m) (xs++news)∧
  w.grownBy (w.drew.alloc (.cells (xs.toArray++news.toArray++Builtin.zeroCells z.cells (grownCap w (n+m) zq e-(n+m))) e)) row:=by
  intro zq ho row;have hge:=grownCap_ge w (n+m) zq e;have hcm:grownCap w (n+m) zq e≤maxLen:=grownCap_le_maxLen w (n+m) zq e h63;refine⟨⟨hlen,.inr ⟨w.heap.size,_,_,rfl,hbase,heap_alloc_new w.drew _,hge,hcm,?_,?_⟩⟩,⟨rfl,rfl,rfl,by simp,fun k hk _=>heap_alloc_old w.drew _ k hk⟩⟩
  ·simp only[Array.size_append,List.size_toArray,size_zeroCells,hzs,hown.1,hl,←Nat.add_mul];congr 1;omega
  ·simp only[Array.toList_append,List.append_assoc];rw[←List.append_assoc,←hlen];exact List.take_left
 have runs:∀(A:Option Addr) (cap:Nat),cap<n+m→(Builtin.firstCells i.size n (.slice A n cap)).run P w.drew= .ok xs.toArray w.drew→(Builtin.append_ #[t,ti] ty #[.slice A n cap,.int kx m]).run P w=
  .ok (.slice (some ⟨w.heap.size,0,none⟩) (n+m) (grownCap w (n+m) cap e)) (w.drew.alloc (.cells (xs.toArray++news.toArray++Builtin.zeroCells z.cells (grownCap w (n+m) cap e-(n+m))) e)):=by
  intro A cap hcap hfo;have hn:¬(n+m≤cap):=by omega
  have h63':¬(9223372036854775807<((n:Int)+(m:Int))):=by omega
  have hfit:=growslice_fits hcap hbytes;have h48':¬(281474976710656<Builtin.nextslicecap (n+m) cap*i.bytes):=by omega
  by_cases hm:m=0
  ·have hnl:=hnil hm;subst hm;rw[hnl];simp only[Nat.add_zero]at hn h63' h48'⊢;have h63'':¬(9223372036854775807<(n:Int)):=by omega
   simp[Builtin.append_,run_underlying ht,run_underlying hti,sizeOf,typeInfo,zeroValue,hi,hz,asInt,asIntOf,hw0,hn,h63'',h48',Question.forced,hfo,newRow,grownCap]
  ·have hmz:¬(m*i.size=0):=Nat.mul_ne_zero hm hsn;simp[Builtin.append_,run_underlying ht,run_underlying hti,sizeOf,typeInfo,zeroValue,hi,hz,asInt,asIntOf,hw,hneg,hbig,hn,h63',h48',Question.forced,hfo,newRow,grownCap,hmz,hna];congr 2;apply Array.ext';simp[List.append_assoc]
 rcases hown.2 with⟨rfl,rfl⟩ | ⟨g,cap,cur,rfl,hbg,hg,hnc,hcm,hcs,htake⟩
 ·have hx:xs=[]:=List.eq_nil_of_length_eq_zero (by simpa using hown.1);subst hx
  by_cases hm:m=0
  ·have hnl:=hnil hm;subst hm;rw[hnl];refine⟨.slice none 0 0,w,?_,World.ownsRow_nil w base e i.size,⟨rfl,rfl,rfl,Nat.le_refl _,fun _ _ _=>rfl⟩,Or.inl rfl⟩;simp[Builtin.append_,run_underlying ht,run_underlying hti,sizeOf,typeInfo,hi,asInt,asIntOf,hw0]
  ·have hgr:=grown 0 (by omega) (Value.ownBlock (.slice none 0 0));exact⟨_,_,runs none 0 (by omega) (by simp[Builtin.firstCells]),hgr.1,hgr.2,Or.inr rfl⟩
 ·by_cases hroom:n+m≤cap
  ·have hfit:n*i.size+news.length≤cur.size:=by rw[hl,hcs,←Nat.add_mul];exact Nat.mul_le_mul_right _ hroom
   have hst:=run_storeCells_at P g (n*i.size) e news 0 cur w hg (by simpa using hfit) h1;simp only[Nat.add_zero]at hst;refine⟨.slice (some ⟨g,0,none⟩) (n+m) cap,_,?_,⟨hlen,.inr ⟨g,cap,_,rfl,hbg,setRow_heap w g cur (cur.toList.take (n*i.size)++news++cur.toList.drop (n*i.size+news.length)).toArray e _ hg,hroom,hcm,?_,?_⟩⟩,⟨rfl,rfl,rfl,by simp,fun k _ hk=>setRow_other w g k _ (fun e=>hk (by simp[Value.ownBlock,e]))⟩,Or.inl rfl⟩
   ·by_cases hm:m=0
    ·have hnl:=hnil hm;subst hm;rw[hnl]at hst⊢;have hst':(storeCells ⟨g,n*i.size,none⟩ []).run P w= .ok () (w.setRow g cur):=by simpa using hst
     simp[Builtin.append_,run_underlying ht,run_underlying hti,sizeOf,typeInfo,hi,asInt,asIntOf,hw0,hnc,Addr.add_lit,hst']
    ·have hmz:¬(m*i.size=0):=Nat.mul_ne_zero hm hsn;simp[Builtin.append_,run_underlying ht,run_underlying hti,sizeOf,typeInfo,zeroValue,hi,hz,asInt,asIntOf,hw,hneg,hbig,hroom,hmz,hna,Addr.add_lit,hst]
   ·simp only[List.size_toArray,List.length_append,List.length_take,List.length_drop,Array.length_toList];omega
   ·rw[htake,←hlen];exact List.take_left
  ·have holds:∀j u,xs[j]? =some u→w.cell? ((⟨g,0,none⟩:Addr).add j)=some u:=hown.cells (g:=g) rfl;have hgr:=grown cap (by omega) (Value.ownBlock (.slice (some ⟨g,0,none⟩) n cap));exact⟨_,_,runs (some ⟨g,0,none⟩) cap (by omega) (run_firstCells_some (P:=P) w.drew i.size n _ n cap xs hown.1 (by simpa using holds)),hgr.1,hgr.2,Or.inr rfl⟩
section
variable {B:fK} {n:Nat} {S:St C} {d:Nat} {V:Nat→Value} {a:Act} {w:World} {N:Nat→Prop} {bs:ao→Nat→Prop}
theorem pD (z:Array Value) (m sz j i:Nat) (hz:z.size=sz) (hj:j<m) (hi:i<sz) (u:Value) (hu:z[i]? =some u):(Builtin.zeroCells z m).toList[j*sz+i]? =some u:=by
 have hlt:=pV hj hi;have hm:(j*sz+i) % z.size=i:=by rw[hz,Nat.mul_comm,Nat.mul_add_mod,Nat.mod_eq_of_lt hi]
 unfold Builtin.zeroCells;simp[hz,hlt,getElem!_def];rw[Nat.mod_eq_of_lt hi,hu]
theorem tI (h:je P C B n S d V a w N bs) {o:Oper} {c:Call} {t t':TypeId} {s x:Operand} (ho:o.op= .call c) (hcl:c.callee= .builtin .append) (hargs:c.args.toList=[s,x]) (htys:c.argTypes.toList=[t,t']) (hs:aT n s=true) (hx:aT n x=true)
 {dp:Bool} {r:Option ao} {e:TypeId} {xs:List (C.U.T e)} (hrow:rowOf C S (bG s) (aa.ev C S t s)=some ⟨some (dp,r),e,xs⟩) (hts:iK C t e=true) (hti:AD C t'=true) {k:IntKind} {m:Int} (hev:aa.ev C S t x= .int k m)
 (h0:0≤m) (hp:((xs.length:Int)+m)*C.bytes e≤room):Out P C B ((iD S r).set d (.own dp e (xs++List.replicate m.toNat (C.U.d e)))) d V a o w:=by
 have hargs:c.args= #[s,x]:=by rw[←Array.toArray_toList (xs:=c.args),hargs]
 have htys:c.argTypes= #[t,t']:=by rw[←Array.toArray_toList (xs:=c.argTypes),htys]
 have G:=h.gD;obtain⟨hu,hT⟩:=G.jY hts;obtain⟨k',hti⟩:=G.DY hti;obtain⟨hown,hlook⟩:=h.uk hs hrow;obtain⟨hrel0,hund0,hlk0,hkeep0⟩:=h.dropped hlook;obtain⟨i,z,hi,hz,hsz,hby,hzs,hpos,hbpos,hall⟩:=G.elem _ _ hT;obtain⟨xs0,lab,hox,hblk,hleafx⟩:=hown.ownsRow G;have hm:(m.toNat:Int)=m:=Int.toNat_of_nonneg h0;have hbytes:(xs.length+m.toNat)*C.bytes e≤140737488355328:=Int.ofNat_le.1 (by rw[Int.natCast_mul,Int.natCast_add,hm];exact hp)
 have hz1:∀u∈(Builtin.zeroCells z.cells m.toNat).toList,u.oneCell'=true:=fun u hu=>by
  obtain⟨k,hk,rfl⟩:=List.mem_iff_getElem.1 hu;have hk':k<m.toNat*C.sz e:=by rw[←hzs,←size_zeroCells,←Array.length_toList];exact hk
  have h1':k / C.sz e<m.toNat:=(Nat.div_lt_iff_lt_mul hpos).2 hk';have h2':k % C.sz e<C.sz e:=Nat.mod_lt _ hpos;obtain⟨u,hu,hzo⟩:=hall (k % C.sz e) _ (List.getElem?_eq_getElem (by rw[G.gk];exact h2'));have:=pD z.cells m.toNat (C.sz e) _ _ hzs h1' h2' u hu;rw[show k / C.sz e*C.sz e+k % C.sz e=k by rw[Nat.mul_comm];exact Nat.div_add_mod _ _,List.getElem?_eq_getElem hk]at this;cases this;exact(hzo.Dc (w:=w) (N:=N) (B:=fun _=>False) (G.kE e _ _ (List.getElem_mem _)) true).one
 obtain⟨v',w',hr,hown',hg,hblk'⟩:=rY (P:=P) w 0 t t' o.type e i z (C.sz e) (C.bytes e) hu hti hi hz hsz hby hzs hpos hbpos (a.eval s) xs.length xs0 hox k m.toNat hz1 hbytes (Nat.zero_le _);rw[hm]at hr
 have hrun:(execOp a.eval o).run P w= .ok (.value v') w':=by
  simp only[execOp,ho,resolve,hcl,hargs,Sem.run_bind,Sem.run_pure,Result.andThen_ok,invoke,builtin,htys,List.map_toArray,List.map_cons,List.map_nil,h.int hx hev,hr]
 have hlen:(xs++List.replicate m.toNat (C.U.d e)).length=xs.length+m.toNat:=by rw[List.length_append,List.length_replicate]
 have kept:Kept B w':=(h.rel undef).kept.grown hg (fun b hb=>by
  have:=(hblk b hb).1;cases r with
  | none=>exact this.elim
  | some q=>exact((h.rel undef).own q b this).2.2)
 have ownlt:∀b,ln bs r b→¬N b∧b<w.heap.size:=fun b hb=>by
  cases r with
  | none=>exact hb.elim
  | some q=>exact⟨((h.rel undef).own q b hb).1,((h.rel undef).own q b hb).2.1⟩
 have hNsame:∀b,N b→w'.heap[b]? =w.heap[b]? :=fun b hb=>hg.block b ((h.rel undef).kd b hb).1 (fun e=>(ownlt b (hblk b e.symm).1).1 hb)
 classical
 let lab':Nat→Option (Nat×Nat):=fun b=>if ln bs r b then lab b else none
 obtain⟨bs',hR⟩:=(hrel0 v').jB (w':=w') d hund0 (fun q=>r=some q) (fun q hq=>(hlk0 q hq).1) (fun b hb hnb=>hg.block b hb (fun e=>by
  have:=(hblk b e.symm).1;cases r with
  | none=>exact this.elim
  | some q=>exact hnb q rfl this)) hg.size kept (N':=N) (Bd:=fun b=>ln bs r b∨(w.heap.size≤b∧b<w'.heap.size)) (fun _ h=>h) (fun _ h=> .inl h)
  (fun b hb=>hb.imp (fun hb=>by
   cases r with
   | none=>exact hb.elim
   | some q=>exact⟨q,rfl,hb⟩) id) (fun b hb hn=>hb.elim (fun hb=>(ownlt b hb).1 hn) (fun hb=>by have:=((h.rel undef).kd b hn).1;omega))
  (dp:=dp) (e:=e) (xs:=xs++List.replicate m.toNat (C.U.d e)) (by
   rw[fp];refine tM G (lab:=lab') (zs0:=xs0++(Builtin.zeroCells z.cells m.toNat).toList) (by rw[hlen];exact hown') (fun b hb=> ?_) (lR G hox.1 (fun j x hx i v hi=> ?_) (fun j y hy i v hi=> ?_))
   ·rcases hblk' with e | e
    ·rw[e]at hb;obtain⟨k1,k2⟩:=hblk b hb;exact⟨.inl k1,by simp only[lab',if_pos k1];exact k2⟩
    ·rw[e]at hb;cases hb;have n1:¬ln bs r w.heap.size:=fun hb=>by have:=(ownlt _ hb).2;omega
     exact⟨.inr ⟨Nat.le_refl _,(hown'.lt _ e).2⟩,by simp only[lab',if_neg n1]⟩
   ·obtain⟨u,hu,hin⟩:=hleafx j x hx i v hi;refine⟨u,hu,hin.move (fun b hb=>hb.elim (hNsame b) (fun hb=>hg.block b (ownlt b hb.1).2 (fun e=>by rw[(hblk b e.symm).2]at hb;cases hb.2))) (fun _ h=>h) (fun b hb=>⟨.inl hb.1,?_⟩)⟩;simp only[lab',if_pos hb.1];exact hb.2
   ·obtain⟨hj,he⟩:=List.getElem?_eq_some_iff.1 hy;rw[List.length_replicate]at hj;rw[List.getElem_replicate]at he;subst he;obtain⟨u,hu,hzo⟩:=hall i v hi;have hi':i<C.sz e:=by rw[←hzs];exact(Array.getElem?_eq_some_iff.1 hu).1
    exact⟨u,pD _ _ _ _ _ hzs hj hi' u hu,hzo.Dc (G.kE e _ v (List.mem_of_getElem? hi)) dp⟩)
 exact⟨v',w',N,bs',hrun,hR⟩
end
end Go.Proofs.YtmapddgocpkgeaaGreat.aa
namespace Go.Proofs.YtmapddgocpkgeaaGreat.aa
open Go.RowKit
set_option linter.unusedVariables false
set_option linter.unusedSimpArgs false
variable {P:Program} {C:Ctx}
theorem Rel.Dl {B:fK} {S:St C} {V:Nat→Value} {w w':World} {N:Nat→Prop} {bs:ao→Nat→Prop} (h:Rel C B S V w N bs) {q b off:Nat} {ls:List C.PV} {cs:Array Value} {ty:TypeId} (hq:get S q= .box ls) (hV:V q= .pointer (some ⟨b,0,none⟩)) (hown:bs (q,[]) b)
 (hheap:w.heap[b]? =some (.cells cs ty (0,0))) (hagg:fe C (bL C S V w) (cL C S V) w N (fun i=>bs (q,[i])) ls cs) (hu:look S (q,[off])= .undef) (v:C.PV) (u:Value) (hv:∀Bo,aJ C (bL C S V w) (cL C S V) w N Bo v u) (hoff:off<ls.length)
 (hsize:w'.heap.size=w.heap.size) (hw:∀b',b'≠b→w'.heap[b']? =w.heap[b']?) (hb:w'.heap[b]? =some (.cells (cs.setIfInBounds off u) ty (0,0))) (hk:Kept B w'):Rel C B (S.set q (.box (ls.set off v))) V w' N bs:=by
 have hqS:=iz hq (by simp);have hlt:q<S.length:=(List.getElem?_eq_some_iff.1 hqS).1;have hN:∀b',N b'→w'.heap[b']? =w.heap[b']? :=fun b' hn=>hw b' (fun e=>by rw[e]at hn;exact(h.own _ b hown).1 hn);have hB:∀r b',r≠(q,[])→bs r b'→w'.heap[b']? =w.heap[b']? :=fun r b' hr hb'=>hw b' (fun e=>by rw[e]at hb';exact hr (h.km r _ b hb' hown))
 have hcell:∀i,i≠off→w'.cell? ⟨b,i,none⟩=w.cell? ⟨b,i,none⟩:=fun i hi=>by
  rw[cell_of_row w' b i _ ty (0,0) hb,cell_of_row w b i _ ty (0,0) hheap];simp[Array.getElem?_setIfInBounds,Ne.symm hi]
 have hget0:get ls off= .undef:=by
  unfold look at hu;simp only[hq,bc]at hu;exact hu
 have hA:∀q' c,bL C S V w q' c→bL C (S.set q (.box (ls.set off v))) V w' q' c:=fun q' c ⟨hr,hc⟩=>by
  obtain⟨s,hs,ho⟩:=cc hr
  by_cases e:q'.1=q
  ·obtain⟨q1,p⟩:=q';simp only at e hs ho;subst e;rw[hqS]at hs;cases hs;cases p with
   | nil=>simp[ig,aQ]at ho
   | cons i p=>
     have hi:i≠off:=fun e=>by
      subst e;unfold look at hr;simp only[hq,bc,hget0]at hr;rw[gf]at hr;simp[isRow]at hr
     refine⟨?_,?_⟩
     ·unfold look at hr⊢;rw[fj,if_pos ⟨rfl,hlt⟩];simp only[hq,bc]at hr⊢;rw[fj,if_neg (fun e=>hi e.1.symm)];exact hr
     ·unfold jf at hc⊢;simp only[hV,walk]at hc⊢;rw[hcell i hi];obtain⟨rfl,u',h1,_⟩:=hagg.look ho;rw[cell_of_row w b i _ ty (0,0) hheap]at hc⊢;exact hc
  ·refine⟨?_,?_⟩
   ·rw[kI _ _ _ _ e];exact hr
   ·unfold jf at hc⊢;rw[(h.fo q'.1 s hs).mZ (w':=w') (fun b' hbx h0=>hB (q'.1,[]) b' (fun e'=>e (congrArg Prod.fst e')) h0) q'.2 ho];exact hc
 have hX:∀t b',cL C S V t b'→cL C (S.set q (.box (ls.set off v))) V t b':=fun t b' ⟨⟨ls',hg⟩,hv'⟩=>by
  refine⟨?_,hv'⟩;rw[fj];split
  ·exact⟨_,rfl⟩
  ·exact⟨ls',hg⟩
 have hnal:∀q' b' n cap,0<n→bL C S V w q' (.slice (some ⟨b',0,none⟩) n cap)→w'.heap[b']? =w.heap[b']? :=fun q' b' n cap hn ⟨hr,hc⟩=>by
  obtain⟨c',hc',hrep⟩:=eH.look h q' (cc hr);rw[hc]at hc';cases hc'
  have hne:q'≠(q,[]):=fun e=>by
   rw[e]at hr;unfold look at hr;simp[hq,bc,isRow]at hr
  cases hl:look S q' with
  | own dp e xs=>
    rw[hl]at hrep;obtain⟨_,_,_,hb',_⟩:=fk.slot hrep;exact hB q' b' hne hb'
  | sl e xs=>
    rw[hl]at hrep;generalize hv':(PV.sl e xs:C.PV)=v' at hrep;have him:gC C w N v' (.slice (some ⟨b',0,none⟩) n cap):=by rw[←hv']at hrep⊢;exact hrep
    cases him with
    | nil=>omega
    | sl _ _ _ _ _ u hb'=>exact hN b' hb'
  | _=>rw[hl]at hr;simp[isRow]at hr
 have leaf:∀r x c,r≠(q,[])→aJ C (bL C S V w) (cL C S V) w N (bs r) x c→aJ C (bL C (S.set q (.box (ls.set off v))) V w') (cL C (S.set q (.box (ls.set off v))) V) w' N (bs r) x c:=fun r x c hr hrep=>
  hrep.move hA hX (fun b' hb'=>hb'.elim (hN b') (hB r b' hr)) hnal (fun _ h=>h) (fun _ h=>h)
 refine⟨fun t s hs=> ?_,h.km,fun r b' hb'=> ?_,fun b' hb'=> ?_,hk⟩
 ·rw[List.getElem?_set]at hs
  by_cases e:q=t
  ·subst e;rw[if_pos rfl,if_pos hlt]at hs;cases hs;refine⟨b,cs.setIfInBounds off u,ty,hV,hown,hb,by simp[hagg.1],fun i x hi=> ?_⟩;rw[List.getElem?_set]at hi
   by_cases e:off=i
   ·subst e;rw[if_pos rfl,if_pos hoff]at hi;cases hi;refine⟨u,by simp[hagg.1,hoff],leaf (q,[off]) v u (by simp) (hv _)⟩
   ·rw[if_neg e]at hi;obtain⟨u',h1,h2⟩:=hagg.2 i x hi;exact⟨u',by simp[Array.getElem?_setIfInBounds,e,h1],leaf (q,[i]) x u' (by simp) h2⟩
  ·rw[if_neg e]at hs;refine(h.fo t s hs).move (fun p x c hx hr=>leaf (t,p) x c (fun e'=>e (congrArg Prod.fst e').symm) hr) (fun b' hbx h0=>⟨h0,hB (t,[]) b' (fun e'=>e (congrArg Prod.fst e').symm) h0⟩)
 ·obtain⟨a1,a2,a3⟩:=h.own r b' hb';exact⟨a1,by rw[hsize];exact a2,a3⟩
 ·obtain⟨a1,a2⟩:=h.kd b' hb';exact⟨by rw[hsize];exact a1,a2⟩
theorem Rel.DS {B:fK} {S:St C} {V:Nat→Value} {w:World} {N:Nat→Prop} {bs:ao→Nat→Prop} (h:Rel C B S V w N bs) (q:ao) (ho:fN S q):
 Rel C B (aa.drop S q) V w N bs∧look (aa.drop S q) q= .undef:=by
 have hf:∀v:C.PV,stays v=true→forget (fun r=>r==q) (fun _=>false) v=v:=fun v hv=>gO _ _ hv;have h1:=eH.dK h (forget (fun r=>r==q) (fun _=>false)) (fun B x c hr=>hr.forget _ _);obtain⟨hl,ho1⟩:=eH.kF h hf (fun v=>l8 _ _ v) q ho;have h2:=h1.put q .undef ho1 (fun _ _=>trivial);refine⟨h2.mono (fun p c hp=> ?_) (fun t b ht=> ?_),fr _ _ _ ho1⟩
 ·obtain⟨⟨hpr,hpc⟩,hne⟩:=hp;have hne:p≠q:=by simpa using hne
  refine bL.put ⟨?_,hpc⟩ ho1 (fun e=>absurd e hne);rw[gU hf S p hpr];exact hpr
 ·obtain⟨⟨⟨ls,hg⟩,hv⟩,_⟩:=ht;exact cL.put _ ⟨⟨_,gX hf hg⟩,hv⟩ ho1
section
variable {B:fK} {n:Nat} {V:Nat→Value} {a:Act}
theorem js {S:St C} {w:World} {N:Nat→Prop} {bs:ao→Nat→Prop} (h:Rel C B S V w N bs) (ha:lQ n V a) {x:Operand} (hx:aT n x=true) (t:TypeId) (bs':List Nat→Nat→Prop):
 aR C (bL C S V w) (cL C S V) w N bs' (bA C S t x) (a.eval x):=by
 cases x with
 | tmp q=>rw[ha.eval (by simpa [aT]using hx)];exact oO h q bs'
 | const v=>exact aR.gJ (pk t v)
 | func f=>exact⟨#[],rfl,rfl,fun i v hi=>by simp at hi⟩
 | global g=>trivial
theorem wz {t:TypeId} {v:Value} {ls:List C.PV} (h:jt C t v= .agg ls):False:=by
 unfold jt at h;split at h
 ·split at h<;>cases h
 ·unfold ofConst at h;split at h<;>cases h
theorem Bf {S:St C} {w:World} {N:Nat→Prop} {bs:ao→Nat→Prop} (h:Rel C B S V w N bs) (ha:lQ n V a) {x:Operand} (hx:aT n x=true) (t:TypeId) (i:Nat) (hk:kQ C S (get (leaves (bA C S t x)) i)=true):
 ∃u,(a.eval x).cells[i]? =some u∧u.oneCell'=true∧∀Bo,aJ C (bL C S V w) (cL C S V) w N Bo (get (leaves (bA C S t x)) i) u:=by
 have hsec:=fun bs'=>js h ha hx t bs'
 by_cases hl:aQ (bA C S t x)=true
 ·rw[gT hl]at hk⊢;cases i with
  | succ i=>unfold get at hk;simp[kQ]at hk
  | zero=>
    have hg:get [bA C S t x] 0=bA C S t x:=rfl;rw[hg]at hk⊢;have hr:∀Bo,aJ C (bL C S V w) (cL C S V) w N Bo (bA C S t x) (a.eval x):=fun Bo=>(hsec (fun _=>Bo)).k8 hl
    by_cases ho:∃dp e xs,bA C S t x= .own dp e xs
    ·obtain⟨dp,e,xs,ho⟩:=ho;obtain⟨v,rfl⟩:=qv ho;have hvv:=nZ (show jt C t v= .own dp e xs from ho);exact⟨a.eval (.const v),by rw[hvv];rfl,by rw[hvv];rfl,hr⟩
    ·obtain⟨h1,h2,_⟩:=mV h (hr (fun _=>False)) hk (fun dp e xs hh=>ho ⟨dp,e,xs,hh⟩);exact⟨a.eval x,by rw[h1];rfl,h2,hr⟩
 ·cases hv:bA C S t x with
  | agg ls=>
    rw[hv]at hk hsec;obtain⟨cs,hc,hagg⟩:=hsec (fun _ _=>False);rw[hc];have hki:get (leaves (PV.agg ls:C.PV)) i=get ls i:=rfl;rw[hki]at hk⊢;cases hi:ls[i]? with
    | none=>
      have:get ls i= .undef:=by unfold get;rw[List.getD_eq_getElem?_getD,hi];rfl
      rw[this]at hk;cases hk
    | some y=>
      rw[get_at hi]at hk⊢;obtain⟨u,hu,hr⟩:=hagg.2 i y hi;refine⟨u,hu,?_,fun Bo=> ?_⟩
      ·refine(mV h hr hk (fun dp e xs he=> ?_)).2.1;cases x with
       | tmp q=>
         have hv':jl q (get S q)= .agg ls:=hv;cases hg:get S q with
         | agg ls0=>
           rw[hg]at hv';cases hv';rw[iO]at hi;cases h0:ls0[i]? with
           | none=>rw[h0]at hi;cases hi
           | some v0=>rw[h0,he]at hi;exact qd _ _ dp e xs (Option.some.inj hi)
         | _=>rw[hg]at hv';simp[jl,k9]at hv'
       | const v=>exact wz (show jt C t v= .agg ls from hv)
       | func f=>cases hv
       | global g=>cases hv
      ·obtain⟨cs',hc',hagg'⟩:=hsec (fun _=>Bo);rw[hc]at hc';cases hc';obtain⟨u',hu',hr'⟩:=hagg'.2 i y hi;rw[hu]at hu';cases hu';exact hr'
  | box ls=>
    rw[hv]at hk;cases i with
    | zero=>cases(show false=true from hk)
    | succ i=>cases(show false=true from hk)
  | gG ls=>
    rw[hv]at hk;cases i with
    | zero=>cases(show false=true from hk)
    | succ i=>cases(show false=true from hk)
  | _=>rw[hv]at hl;exact absurd rfl hl
theorem oL (ha:lQ n V a) {x:Operand} (hx:aT n x=true) (t:TypeId) (q off b:Nat) (hV:V q= .pointer (some ⟨b,0,none⟩)):
 ∀(m i:Nat) {S S':St C} {w:World} {N:Nat→Prop} {bs:ao→Nat→Prop},Rel C B S V w N bs→rl C q off t x i m S=some S'→i+m=(a.eval x).cells.size→
  ∃w' N' bs',(storeCells ⟨b,off,none⟩ ((a.eval x).cells.toList.drop i) i).run P w= .ok () w'∧Rel C B S' V w' N' bs'
 | 0,i,S,S',w,N,bs,h,hs,hi=>by
   cases hs;rw[List.drop_eq_nil_of_le (by simp;omega)];exact⟨w,N,bs,rfl,h⟩
 | m+1,i,S,S',w,N,bs,h,hs,hi=>by
   unfold rl at hs;split at hs
   ·rename_i ls0 ls hq0 hq;split at hs
    ·rename_i hc;obtain⟨hlt0,hlt,hk⟩:=hc;split at hs
     ·rename_i S1 hcl;have hqS:=iz hq0 (by simp)
      have ho:fN S (q,[off+i]):=by
       refine⟨_,hqS,ls0[off+i],List.getElem?_eq_getElem hlt0,?_⟩;obtain⟨_,cs,_,_,_,_,hagg⟩:=h.fo q _ hqS;obtain⟨u,_,hr⟩:=hagg.2 _ _ (List.getElem?_eq_getElem hlt0);exact s6 hr
      obtain⟨h1,hu⟩:=h.DS (q,[off+i]) ho;obtain⟨u,hcu,h1c,hrep⟩:=Bf h1 ha hx t i hk;obtain⟨b',cs,ty,hb',hown,hheap,hagg⟩:=h1.fo q _ (iz hq (by simp));rw[hV]at hb';simp only[Value.pointer.injEq,Option.some.injEq,Addr.mk.injEq,and_true]at hb';subst hb';have hsz:off+i<cs.size:=by rw[hagg.1];exact hlt
      let w1:=w.setRow b (cs.setIfInBounds (off+i) u)
      have hcell:w.cell? ⟨b,off+i,none⟩=some cs[off+i]:=by simp[World.cell?,hheap,hsz]
      have hfro:w.frozen? ⟨b,off+i,none⟩=false:=by simp[World.frozen?,hheap]
      have hst:(store ((⟨b,off,none⟩:Addr).add i) u).run P w= .ok () w1:=by
       rw[Addr.add_lit,run_store P w _ u _ h1c,hcell];simp[hfro,setCell_eq_setRow w b (off+i) cs ty (0,0) u hheap,w1]
      have hk1:Kept B w1:=by
       refine⟨h1.kept.os,h1.kept.tape,h1.kept.output,by simpa [w1]using h1.kept.size,fun b2 hb2 hm=> ?_⟩
       rw[show w1.heap[b2]? =w.heap[b2]? from setRow_other w b b2 _ (fun e=>by
        rcases(h1.own _ b hown).2.2 with h2 | h2
        ·rw[e]at hm;exact hm h2
        ·omega)]
       exact h1.kept.block b2 hb2 hm
      have h2:=h1.Dl (w':=w1) hq hV hown hheap hagg hu _ u hrep hlt (by simp[w1]) (fun b2 hb2=>setRow_other w b b2 _ hb2) (setRow_heap w b cs _ ty _ hheap) hk1;obtain⟨N3,bs3,h3,_⟩:=h2.lx _ hcl;obtain⟨w',N',bs',hr,h4⟩:=oL ha hx t q off b hV m (i+1) h3 hs (by omega);refine⟨w',N',bs',?_,h4⟩;have hil:i<(a.eval x).cells.toList.length:=by simp;omega
      have hd:(a.eval x).cells.toList.drop i=u::(a.eval x).cells.toList.drop (i+1):=by
       rw[List.drop_eq_getElem_cons hil];congr 1;have:=Array.getElem?_eq_some_iff.1 hcu;obtain⟨_,he⟩:=this;rw[←he];simp
      rw[hd];simp only[storeCells,Sem.run_bind,hst,Result.andThen_ok];exact hr
     ·cases hs
    ·cases hs
   ·cases hs
end
end Go.Proofs.YtmapddgocpkgeaaGreat.aa
namespace Go.Proofs.YtmapddgocpkgeaaGreat.aa
open Go.RowKit
set_option linter.unusedVariables false
set_option linter.unusedSimpArgs false
variable {P:Program} {C:Ctx}
theorem tH {U:gm} (r:ao) (e:TypeId) (lo hi:Nat) (v:PV U) (h:stays v=true):jK r e lo hi v=v:=by cases v<;>first | rfl | simp[stays]at h
theorem ux {U:gm} (r:ao) (e:TypeId) (lo hi:Nat) (v:PV U):aQ (jK r e lo hi v)=aQ v:=by
 cases v<;>first | rfl | (simp only[jK];split<;>rfl)
theorem eH.change {A A':ao→Value→Prop} {X X':Nat→Nat→Prop} {B:fK} {S:St C} {V:Nat→Value} {w w':World} {N N':Nat→Prop} {bs bs':ao→Nat→Prop} (h:eH C A X B S V w N bs) (f:C.PV→C.PV)
 (hleaf:∀t p s x c,S[t]? =some s→bc p s=x→aJ C A X w N (bs (t,p)) x c→aJ C A' X' w' N' (bs' (t,p)) (f x) c)
 (hbox:∀t s b,S[t]? =some s→(∃ls,s= .box ls)→bs (t,[]) b→bs' (t,[]) b∧w'.heap[b]? =w.heap[b]?)
 (km:∀r r' b,bs' r b→bs' r' b→r=r') (own:∀r b,bs' r b→¬N' b∧b<w'.heap.size∧(B.M b∨B.w.heap.size≤b)) (kd:∀b,N' b→b<w'.heap.size∧(B.N b∨B.M b∨B.w.heap.size≤b)) (hk:Kept B w'):
 eH C A' X' B (aa.dK f S) V w' N' bs' where
 fo t v hv:=by
  unfold aa.dK at hv;rw[List.getElem?_map]at hv;cases hs:S[t]? with
  | none=>rw[hs]at hv;cases hv
  | some s=>
    rw[hs]at hv;obtain rfl:=Option.some.inj hv;exact(h.fo t s hs).map (fun p x c hx hr=>hleaf t p s x c hs hx hr) (fun b hb h0=>hbox t s b hs hb h0)
 km:=km
 own:=own
 kd:=kd
 kept:=hk
theorem Rel.ym {B:fK} {S:St C} {V:Nat→Value} {w w':World} {N:Nat→Prop} {bs:ao→Nat→Prop} (h:Rel C B S V w N bs) (r:ao) {dp:Bool} {e:TypeId} {xs:List (C.U.T e)} (hl:look S r= .own dp e xs) {b n cap:Nat} (hc:jf V w r=some (.slice (some ⟨b,0,none⟩) n cap)) (lo hi:Nat)
 (hw:∀b',b'≠b→w'.heap[b']? =w.heap[b']?) (hsize:w'.heap.size=w.heap.size) (hk:Kept B w') (hcell:∀j o,o<C.sz e→¬(lo≤o∧o<hi)→w'.cell? ⟨b,j*C.sz e+o,none⟩=w.cell? ⟨b,j*C.sz e+o,none⟩)
 (qs:ao→Prop) (hqs:∀q,qs q→look (put S r .undef) q= .undef) {N' Bd:Nat→Prop} (hNN:∀b',N b'→N' b') (hN:∀b',N' b'→N b'∨bs r b'∨∃q,qs q∧bs q b') (hB:∀b',Bd b'→bs r b'∨∃q,qs q∧bs q b') (hdis:∀b',Bd b'→¬N' b')
 {dp':Bool} {xs':List (C.U.T e)} (hv:fk C w' N' Bd dp' e xs' (.slice (some ⟨b,0,none⟩) n cap)):∃bs',Rel C B (rB C S r e lo hi (.own dp' e xs')) V w' N' bs':=by
 have hrow:=ik hl;have ho:=cc hrow
 have hbr:bs r b:=by
  obtain⟨c',hc',hrep⟩:=eH.look h r ho;rw[hc]at hc';cases hc';rw[hl]at hrep;obtain⟨_,_,_,hb,_⟩:=fk.slot hrep;exact hb
 have h1:=eH.put h r .undef ho (fun _ _=>trivial);have ho1:fN (put S r .undef) r:=ho.put .undef rfl ho;have hu1:look (put S r .undef) r= .undef:=fr S r .undef ho;have hNs:∀b',N b'→w'.heap[b']? =w.heap[b']? :=fun b' hn=>hw b' (fun e=>by rw[e]at hn;exact(h.own r b hbr).1 hn);have hBs:∀q b',q≠r→bs q b'→w'.heap[b']? =w.heap[b']? :=fun q b' hq hb'=>hw b' (fun e=>by rw[e]at hb';exact hq (h.km q r b hb' hbr))
 classical
 let bs':ao→Nat→Prop:=fun z b'=>if z=r then Bd b' else if qs z then False else bs z b'
 let f:C.PV→C.PV:=jK r e lo hi
 have hboxr:∀t s,(put S r .undef)[t]? =some s→(∃ls,s= .box ls)→(t,[])≠r∧¬qs (t,[]):=fun t s hs ⟨ls,hb⟩=>by
  have hlk:look (put S r .undef) (t,[])= .box ls:=by
   unfold look;rw[get_some hs,hb];rfl
  exact⟨fun e=>(by rw[e,hu1]at hlk;cases hlk),fun hq=>by rw[hqs _ hq]at hlk;cases hlk⟩
 have h2:eH C (bL C S V w) (cL C S V) B (dK f (put S r .undef)) V w' N' bs':=by
  refine h1.change f (fun t p s x c hs hx hrep=> ?_) (fun t s b' hs hb h0=> ?_) (fun z z' b' hb hb'=> ?_) (fun z b' hb=> ?_) (fun b' hb=> ?_) hk
  ·have hxl:look (put S r .undef) (t,p)=x:=by unfold look;rw[get_some hs];exact hx
   cases x with
   | undef=>trivial
   | void=>exact hrep
   | int k m=>exact hrep
   | bool k=>exact hrep
   | str k=>exact hrep
   | agg ls=>exact hrep
   | box ls=>exact hrep
   | gG ls=>exact hrep
   | iV q=>exact hrep
   | ptr t off=>exact hrep
   | fn g caps=>exact hrep
   | nR q ty i off=>exact hrep
   | vw q ty i off=>exact hrep
   | sl ty zs=>exact gC.mono hrep hNs hNN
   | rd y off=>
     obtain⟨b0,o,hb0,hc0,hl0⟩:=hrep;exact⟨b0,o,hNN _ hb0,hc0,fun i v hi=>let⟨u,k1,k2⟩:=hl0 i v hi;⟨u,by rw[cell_of_heap (w:=w) (hNs b0 hb0)];exact k1,k2.mono hNs hNN⟩⟩
   | own d2 ty zs=>
     have e1:(t,p)≠r:=fun e=>by rw[e,hu1]at hxl;cases hxl
     have e2:¬qs (t,p):=fun hq=>by rw[hqs _ hq]at hxl;cases hxl
     have eb:bs' (t,p)=bs (t,p):=by funext b';simp[bs',e1,e2]
     show fk C w' N' (bs' (t,p)) d2 ty zs c;rw[eb];exact fk.move hrep (fun b' hb'=>hb'.elim (hNs b') (hBs _ b' e1)) hNN (fun _ h=>h)
   | kB q ty i off=>
     show aJ C _ _ w' N' _ (jK r e lo hi (.kB q ty i off)) c;unfold jK;simp only;split
     ·trivial
     ·rename_i hcond;obtain⟨b0,m,cp,⟨hra,hca⟩,hi0,hce⟩:=hrep;refine⟨b0,m,cp,⟨hra,hca⟩,hi0,?_⟩
      by_cases eq:q=r
      ·subst eq
       have hty:ty=e:=by
        by_cases h':ty=e
        ·exact h'
        ·exact absurd ⟨rfl,.inl h'⟩ hcond
       subst hty;rw[hc]at hca;simp only[Option.some.injEq,Value.slice.injEq,Addr.mk.injEq,and_true]at hca;obtain⟨rfl,_,_⟩:=hca;rw[hcell _ _ hi0.2.2 (fun hr=>hcond ⟨rfl,.inr hr⟩)];exact hce
      ·have:w'.heap[b0]? =w.heap[b0]? :=by
        obtain⟨c',hc',hrep'⟩:=eH.look h q (cc hra);rw[hca]at hc';cases hc';cases hlq:look S q with
        | own d2 ty2 zs=>
          rw[hlq]at hrep';obtain⟨_,_,_,hb0,_⟩:=fk.slot hrep';exact hBs q b0 eq hb0
        | sl ty2 zs=>
          rw[hlq]at hrep';generalize hv':(PV.sl ty2 zs:C.PV)=v' at hrep';have him:gC C w N v' (.slice (some ⟨b0,0,none⟩) m cp):=by rw[←hv']at hrep'⊢;exact hrep'
          cases him with
          | nil=>have:=hi0.2.1;omega
          | sl _ _ _ _ _ u hb'=>exact hNs b0 hb'
        | _=>rw[hlq]at hra;simp[isRow]at hra
       rw[cell_of_heap (w:=w) this];exact hce
  ·obtain⟨e1,e2⟩:=hboxr t s hs hb;exact⟨by simp only[bs',if_neg e1,if_neg e2];exact h0,hBs _ b' e1 h0⟩
  ·have key:∀z b',bs' z b'→z≠r→¬qs z∧bs z b':=fun z b' hb hz=>by
    simp only[bs',if_neg hz]at hb
    by_cases e2:qs z
    ·rw[if_pos e2]at hb;exact hb.elim
    ·rw[if_neg e2]at hb;exact⟨e2,hb⟩
   have key2:∀z b',Bd b'→z≠r→¬qs z→bs z b'→False:=fun z b' hb hz hq hbz=>by
    rcases hB b' hb with hbr' | ⟨q,hq',hbq⟩
    ·exact hz (h.km z r b' hbz hbr')
    ·exact hq (by rw[h.km z q b' hbz hbq];exact hq')
   by_cases e1:z=r
   ·by_cases e2:z'=r
    ·rw[e1,e2]
    ·obtain⟨k1,k2⟩:=key z' b' hb' e2;exact(key2 z' b' (by simpa [bs',e1]using hb) e2 k1 k2).elim
   ·obtain⟨k1,k2⟩:=key z b' hb e1
    by_cases e2:z'=r
    ·exact(key2 z b' (by simpa [bs',e2]using hb') e1 k1 k2).elim
    ·exact h.km z z' b' k2 (key z' b' hb' e2).2
  ·by_cases e1:z=r
   ·have hb0:Bd b':=by simpa [bs',e1]using hb
    refine⟨hdis b' hb0,?_⟩;rw[hsize];rcases hB b' hb0 with hbr' | ⟨q,_,hbq⟩
    ·exact(h.own r b' hbr').2
    ·exact(h.own q b' hbq).2
   ·simp only[bs',if_neg e1]at hb
    by_cases e2:qs z
    ·rw[if_pos e2]at hb;exact hb.elim
    ·rw[if_neg e2]at hb;refine⟨fun hn=> ?_,by rw[hsize];exact(h.own z b' hb).2⟩;rcases hN b' hn with hn | hbr' | ⟨q,hq,hbq⟩
     ·exact(h.own z b' hb).1 hn
     ·exact e1 (h.km z r b' hb hbr')
     ·exact e2 (by rw[h.km z q b' hb hbq];exact hq)
  ·rw[hsize];rcases hN b' hb with hn | hbr' | ⟨q,_,hbq⟩
   ·exact h.kd b' hn
   ·obtain⟨_,a2,a3⟩:=h.own r b' hbr';exact⟨a2,.inr a3⟩
   ·obtain⟨_,a2,a3⟩:=h.own q b' hbq;exact⟨a2,.inr a3⟩
 have hf:∀v:C.PV,stays v=true→f v=v:=fun v hv=>tH _ _ _ _ _ hv;obtain⟨_,ho2⟩:=eH.kF h1 hf (fun v=>ux _ _ _ _ v) r ho1
 have hconc:∀q,isRow (look S q)=true→jf V w' q=jf V w q:=fun q hr=>by
  obtain⟨s,hs,hos⟩:=cc hr;unfold jf
  exact(h.fo q.1 s hs).mZ (fun b' hbx h0=>hBs (q.1,[]) b' (fun e=>by
   obtain⟨ls,hls⟩:=hbx;rw[←e]at hl;unfold look at hl;rw[get_some hs,hls]at hl;cases hl) h0) q.2 hos
 have h3:=h2.put r (.own dp' e xs') ho2 (fun c' hc'=>by
  rw[hconc r hrow,hc]at hc';cases hc';have eb:bs' r=Bd:=by funext b';simp[bs']
  show fk C w' N' (bs' r) dp' e xs' _;rw[eb];exact hv)
 refine⟨bs',h3.mono (fun q c hq=> ?_) (fun t b' ht=> ?_)⟩
 ·obtain⟨hr,hcq⟩:=hq;refine⟨?_,by rw[hconc q hr];exact hcq⟩;unfold rB
  by_cases eq:q=r
  ·rw[eq,fr _ _ _ ho2];rfl
  ·have k1:look (put S r .undef) q=look S q:=jQ S r q _ ho.leaf hr eq;have k2:look (dK f (put S r .undef)) q=look S q:=by rw[gU hf _ q (by rw[k1];exact hr),k1]
   rw[jQ _ _ _ _ ho2.leaf (by rw[k2];exact hr) eq,k2];exact hr
 ·have k1:=cL.put (C:=C) .undef ht ho;obtain⟨⟨ls,hg⟩,hvt⟩:=k1;exact cL.put _ ⟨⟨_,gX hf hg⟩,hvt⟩ ho2
end Go.Proofs.YtmapddgocpkgeaaGreat.aa
namespace Go.Proofs.YtmapddgocpkgeaaGreat.aa
open Go.RowKit
set_option linter.unusedVariables false
set_option linter.unusedSimpArgs false
variable {P:Program} {C:Ctx}
theorem ur (G:Good P C) {e:TypeId} {xs:List (C.U.T e)} {i:Int} {off:Nat} {v:C.PV} {y:C.U.T e} (hd:C.dec e (tV C e xs i off v)=some y) (hfit:off+(leaves v).length≤(leaves (elemAt C e xs i)).length):
 leaves (C.enc e y)=kK C (leaves (elemAt C e xs i)) off (leaves v):=by
 have hy:=G.dec _ _ _ hd;rw[hy]
 have hlen:(leaves (tV C e xs i off v)).length=(leaves (elemAt C e xs i)).length:=by
  rw[←hy,G.gk];exact(G.gk e _).symm
 unfold tV at hlen⊢;split
 ·rename_i ls heq;rw[heq];rfl
 ·rename_i hne
  have hl1:(leaves (elemAt C e xs i)).length=1:=by
   cases hE:elemAt C e xs i with
   | agg ls=>exact absurd hE (hne ls)
   | _=>rfl
  have hv1:(leaves v).length=1:=by
   split at hlen
   ·rename_i ls heq;exact absurd heq (hne ls)
   ·omega
  have h0:off=0:=by omega
  subst h0;unfold kK;rw[List.take_zero,List.nil_append,List.drop_eq_nil_of_le (by omega),List.append_nil]
section
variable {B:fK} {n:Nat} {V:Nat→Value} {a:Act} {S:St C} {w:World} {N:Nat→Prop} {bs:ao→Nat→Prop}
theorem iU (h:Rel C B S V w N bs) (ha:lQ n V a) {x:Operand} (hx:aT n x=true) (t:TypeId):
 aR C (bL C S V w) (cL C S V) w N (Cu bs x) (ev C S t x) (a.eval x):=by
 cases x with
 | tmp q=>
   rw[ha.eval (by simpa [aT]using hx)];show aR C _ _ w N _ (get S q) _
   by_cases hu:get S q= .undef
   ·rw[hu];trivial
   ·exact h.fo q _ (iz rfl hu)
 | const v=>exact aR.gJ (pk t v)
 | func f=>exact⟨#[],rfl,rfl,fun i v hi=>by simp at hi⟩
 | global g=>trivial
theorem AQ (h:Rel C B S V w N bs) (ha:lQ n V a) {x:Operand} (hx:aT n x=true) {t:TypeId} {v':C.PV} (hr:read C S (ev C S t x)=some v'):
 uu C w (behind S N bs (aZ C (bG x) (ev C S t x))) (leaves v') (a.eval x).cells:=
 (mT h (bG x) _ _ _ (iU h ha hx t) (fun p b hb=>by
  cases x with
  | tmp q=>exact⟨q,rfl,rfl,hb⟩
  | const v=>exact hb.elim
  | func f=>exact hb.elim
  | global g=>exact hb.elim) hr).1
theorem zQ (h:Rel C B S V w N bs) (ha:lQ n V a) {x:Operand} (hx:aT n x=true) {t:TypeId} (hk:known C S (bA C S t x)=true):(a.eval x).cells.size=(leaves (bA C S t x)).length:=by
 by_cases hl:aQ (bA C S t x)=true
 ·rw[gT hl]
  have hk':kQ C S (get (leaves (bA C S t x)) 0)=true:=by
   unfold known at hk;rw[gT hl]at hk⊢;show kQ C S (bA C S t x)=true
   simpa using hk
  have hr:=(js h ha hx t (fun _ _=>False)).k8 hl
  by_cases ho:∃dp e xs,bA C S t x= .own dp e xs
  ·obtain⟨dp,e,xs,ho⟩:=ho;obtain⟨v,rfl⟩:=qv ho;have hvv:=nZ (show jt C t v= .own dp e xs from ho);rw[hvv];rfl
  ·rw[gT hl]at hk';rw[(mV h hr hk' (fun dp e xs hh=>ho ⟨dp,e,xs,hh⟩)).1];rfl
 ·cases hv:bA C S t x with
  | agg ls=>
    have hr:=js h ha hx t (fun _ _=>False);rw[hv]at hr;obtain⟨cs,hc,hagg⟩:=hr;rw[hc];exact hagg.1
  | box ls=>rw[hv]at hk;simp[known,leaves,kQ]at hk
  | gG ls=>rw[hv]at hk;simp[known,leaves,kQ]at hk
  | _=>rw[hv]at hl;exact absurd rfl hl
theorem mv (cur:Array Value) (vs:List Value) (o:Nat) (hf:o+vs.length≤cur.size) (k:Nat):((cur.toList.take o++vs++cur.toList.drop (o+vs.length)).toArray)[k]? =if o≤k∧k<o+vs.length then vs[k-o]? else cur[k]? :=by
 simp only[List.getElem?_toArray]
 by_cases h1:k<o
 ·rw[if_neg (by omega),List.append_assoc,List.getElem?_append_left (by simp;omega),List.getElem?_take,if_pos h1];simp
 ·by_cases h2:k<o+vs.length
  ·rw[if_pos (by omega),List.append_assoc,List.getElem?_append_right (by simp;omega),List.getElem?_append_left (by simp;omega)];congr 1;simp;omega
  ·rw[if_neg (by omega),List.getElem?_append_right (by simp;omega),List.getElem?_drop];rw[show o+vs.length+(k-(cur.toList.take o++vs).length)=k by simp;omega];simp
theorem kT:∀(rs:List ao) {S:St C} {r:ao} {dp:Bool} {e:TypeId} {xs:List (C.U.T e)},look S r= .own dp e xs→r ∉ rs→look (ij C S rs) r= .own dp e xs
 | [],S,r,dp,e,xs,h,hr=>h
 | q::qs,S,r,dp,e,xs,h,hr=>by
   refine kT qs ?_ (fun hm=>hr (List.mem_cons_of_mem _ hm));unfold xW;split
   ·rename_i d2 e2 zs hl;rw[jQ S q r _ (by rw[hl];rfl) (by rw[h];rfl) (fun e=>hr (by rw[e];simp))];exact h
   ·exact h
theorem fk.flat (G:Good P C) {N Bo:Nat→Prop} {dp:Bool} {e:TypeId} {xs:List (C.U.T e)} {c:Value} (h:fk C w N Bo dp e xs c) (hd:gp C e=false):kj C w Bo e xs c:=by
 rcases h with h | ⟨b,cap,cur,lab,rfl,hb,hl,hh,h1,h2,h3,h4⟩
 ·exact .inl h
 ·refine .inr ⟨b,cap,cur,rfl,hb,hh,h1,h2,h3,fun j x hx i v hi=> ?_⟩;obtain⟨u,hu,hin⟩:=h4 j x hx i v hi;exact⟨u,hu,nI.scalar (dp':=false) (Bo':=fun _=>False) hin (G.jg e hd x v (List.mem_of_getElem? hi))⟩
theorem qM {t:Option Nat} {r:ao}:∀(ls:List C.PV) (j k k':Nat) (v v':C.PV),(gY C t j ls).Nodup→ls[k]? =some v→ls[k']? =some v'→r∈bC C (t.map fun q=>(q,[j+k])) v→r∈bC C (t.map fun q=>(q,[j+k'])) v'→k=k'
 | [],j,k,k',v,v',_,h,_,_,_=>by simp at h
 | x::xs,j,0,0,v,v',_,_,_,_,_=>rfl
 | x::xs,j,0,k'+1,v,v',hn,h,h',hr,hr'=>by
   simp only[List.getElem?_cons_zero]at h;cases h;simp only[List.getElem?_cons_succ]at h';unfold gY at hn;have:=iu xs (j+1) k' v' h' (by rw[show j+1+k'=j+(k'+1) by omega];exact hr');exact absurd rfl ((List.nodup_append.1 hn).2.2 r hr r this)
 | x::xs,j,k+1,0,v,v',hn,h,h',hr,hr'=>by
   simp only[List.getElem?_cons_zero]at h';cases h';simp only[List.getElem?_cons_succ]at h;unfold gY at hn;have:=iu xs (j+1) k v h (by rw[show j+1+k=j+(k+1) by omega];exact hr);exact absurd rfl ((List.nodup_append.1 hn).2.2 r hr' r this)
 | x::xs,j,k+1,k'+1,v,v',hn,h,h',hr,hr'=>by
   simp only[List.getElem?_cons_succ]at h h';unfold gY at hn;rw[qM xs (j+1) k k' v v' (List.nodup_append.1 hn).2.1 h h' (by rw[show j+1+k=j+(k+1) by omega];exact hr) (by rw[show j+1+k'=j+(k'+1) by omega];exact hr')]
theorem yG (G:Good P C) (h:Rel C B S V w N bs) {Bo:Nat→Prop} (src:Option ao) (v v':C.PV) (c:Value) (hv:aJ C (bL C S V w) (cL C S V) w N Bo v c) (hs:∀dp e xs,v= .own dp e xs→∀b,Bo b→∃q,src=some q∧bs q b)
 (hr:fX C S v=some v') (ho:mm C S v=true):nI C w N (fun b=>∃q,(bC C src v).head? =some q∧bs q b) true v' c:=by
 cases v with
 | own dp e xs=>
   cases hr;have hd:gp C e=false:=by simpa [mm]using ho
   have:=fk.flat G hv hd;refine kj.move this (fun _ _=>rfl) (fun b hb=> ?_);obtain⟨q,hq,hb⟩:=hs dp e xs rfl b hb;exact⟨q,by simp[bC,hq],hb⟩
 | iV q=>
   obtain⟨hq,hc⟩:bL C S V w q c:=hv;obtain⟨c',hc',hrep⟩:=eH.look h q (cc hq);rw[hc]at hc';cases hc';simp only[fX]at hr;simp only[mm]at ho;cases hl:look S q with
   | own dp e xs=>
     rw[hl]at hrep hr ho;cases hr;have hd:gp C e=false:=by simpa using ho
     exact kj.move (fk.flat G hrep hd) (fun _ _=>rfl) (fun b hb=>⟨q,by simp[bC],hb⟩)
   | _=>rw[hl]at ho;simp at ho
 | int k m=>cases hr;obtain rfl:c=_:=hv;exact .int k m
 | bool k=>cases hr;obtain rfl:c=_:=hv;exact .bool k
 | str k=>cases hr;obtain rfl:c=_:=hv;exact .str k
 | _=>simp[mm]at ho
theorem xd (G:Good P C) (h:Rel C B S V w N bs) (ha:lQ n V a) {x:Operand} (hx:aT n x=true) {t:TypeId} {v:C.PV} (hr:read C S (ev C S t x)=some v) (ho:owned C S (ev C S t x)=true) (hn:(aZ C (bG x) (ev C S t x)).Nodup):
 ∃rootAt:Nat→Option ao,(∀k q,rootAt k=some q→q∈aZ C (bG x) (ev C S t x))∧(∀k k' q,rootAt k=some q→rootAt k'=some q→k=k')∧
  ∀(k:Nat) (v0:C.PV),(leaves v)[k]? =some v0→∃u,(a.eval x).cells[k]? =some u∧nI C w N (fun b=>∃q,rootAt k=some q∧bs q b) true v0 u:=by
 have hrep:=iU h ha hx t
 have hbs:∀p b,Cu bs x p b→∃q,bG x=some q∧bs (q,p) b:=fun p b hb=>by
  cases x with
  | tmp q=>exact⟨q,rfl,hb⟩
  | const v=>exact hb.elim
  | func f=>exact hb.elim
  | global g=>exact hb.elim
 by_cases hl:aQ (ev C S t x)=true
 ·have hrs:aZ C (bG x) (ev C S t x)=bC C ((bG x).map fun q=>(q,[])) (ev C S t x):=by
   cases hv:ev C S t x<;>first | rfl | (rw[hv]at hl;simp[aQ]at hl)
  have hr1:fX C S (ev C S t x)=some v:=by
   cases hv:ev C S t x<;>first | (rw[hv]at hr;exact hr) | (rw[hv]at hl;simp[aQ]at hl)
  have ho1:mm C S (ev C S t x)=true:=by
   unfold owned at ho;rw[gT hl]at ho
   simpa using ho
  have h1:=yG G h ((bG x).map fun q=>(q,[])) _ v _ (hrep.k8 hl) (fun _ _ _ _ b hb=>let⟨q,hq,hb⟩:=hbs _ b hb;⟨(q,[]),by rw[hq];rfl,hb⟩) hr1 ho1;have hvl:=(zV hr1).1
  have hcell:(a.eval x).cells= #[a.eval x]:=by
   have hone:=nI.one h1;cases hc:a.eval x<;>first | rfl | (rw[hc]at hone;simp[Value.oneCell']at hone)
  refine⟨fun k=>if k=0 then(bC C ((bG x).map fun q=>(q,[])) (ev C S t x)).head? else none,fun k q hq=> ?_,fun k k' q hq hq'=> ?_,fun k v0 hv0=> ?_⟩
  ·rw[hrs];simp only at hq;split at hq
   ·exact List.mem_of_mem_head? hq
   ·cases hq
  ·simp only at hq hq';split at hq
   ·split at hq'
    ·omega
    ·cases hq'
   ·cases hq
  ·rw[gT hvl]at hv0;cases k with
   | zero=>
     simp only[List.getElem?_cons_zero]at hv0;cases hv0;exact⟨a.eval x,by rw[hcell];rfl,by simpa using h1⟩
   | succ k=>simp at hv0
 ·cases hv:ev C S t x with
  | agg ls=>
    rw[hv]at hr ho hn hrep;obtain⟨cs,hc,hagg⟩:=hrep;rw[hc];unfold read at hr;simp only at hr;split at hr
    ·rename_i ls' hls;cases hr;obtain⟨hlen,hg⟩:=oq _ _ hls;refine⟨fun k=>(ls[k]?).bind fun y=>(bC C ((bG x).map fun q=>(q,[k])) y).head?,fun k q hq=> ?_,fun k k' q hq hq'=> ?_,fun k v0 hv0=> ?_⟩
     ·simp only at hq;cases hy:ls[k]? with
      | none=>rw[hy]at hq;cases hq
      | some y=>
        rw[hy]at hq;exact iu ls 0 k y hy (by rw[Nat.zero_add];exact List.mem_of_mem_head? hq)
     ·simp only at hq hq';cases hy:ls[k]? with
      | none=>rw[hy]at hq;cases hq
      | some y=>
        cases hy':ls[k']? with
        | none=>rw[hy']at hq';cases hq'
        | some y'=>
          rw[hy]at hq;rw[hy']at hq';exact qM ls 0 k k' y y' hn hy hy' (by rw[Nat.zero_add];exact List.mem_of_mem_head? hq) (by rw[Nat.zero_add];exact List.mem_of_mem_head? hq')
     ·have hv0:ls'[k]? =some v0:=hv0;have hk:k<ls.length:=by rw[←hlen];exact(List.getElem?_eq_some_iff.1 hv0).1
      have hy:=List.getElem?_eq_getElem hk;obtain⟨u,hu,hrl⟩:=hagg.2 k _ hy;obtain⟨v1,hv1,hrd⟩:=hg k _ hy;rw[hv0]at hv1;cases hv1;refine⟨u,hu,?_⟩;have:=yG G h ((bG x).map fun q=>(q,[k])) _ v0 u hrl (fun _ _ _ _ b hb=>let⟨q,hq,hb⟩:=hbs _ b hb;⟨(q,[k]),by rw[hq];rfl,hb⟩) hrd (List.all_eq_true.1 ho _ (List.getElem_mem hk));simp only[hy,Option.bind_some];exact this
    ·cases hr
  | box ls=>rw[hv]at hr;cases hr
  | gG ls=>rw[hv]at hr;cases hr
  | _=>rw[hv]at hl;exact absurd rfl hl
theorem j0 {t:Option Nat} {r:ao}:∀(ls:List C.PV) (j:Nat),r∈gY C t j ls→∃k v,ls[k]? =some v∧r∈bC C (t.map fun q=>(q,[j+k])) v
 | [],j,h=>by simp[gY]at h
 | x::xs,j,h=>by
   unfold gY at h;rcases List.mem_append.1 h with h | h
   ·exact⟨0,x,rfl,h⟩
   ·obtain⟨k,v,h1,h2⟩:=j0 xs (j+1) h;exact⟨k+1,v,h1,by rw[show j+(k+1)=j+1+k by omega];exact h2⟩
theorem wR {src:Option ao} {v:C.PV} (ho:mm C S v=true) (hs:∀dp e xs,v= .own dp e xs→∀q,src=some q→look S q= .own dp e xs):∀q,q∈bC C src v→isRow (look S q)=true:=fun q hq=>by
 cases v with
 | own dp e xs=>
   cases src with
   | none=>simp[bC]at hq
   | some q'=>
     simp only[bC,List.mem_singleton]at hq;rw[hq,hs dp e xs rfl q' rfl];rfl
 | iV q'=>
   simp only[bC,List.mem_singleton]at hq;subst hq;simp only[mm]at ho;cases hl:look S q with
   | own dp e xs=>rfl
   | _=>rw[hl]at ho;simp at ho
 | kB q' e i off=>simp[mm]at ho
 | _=>simp[bC]at hq
theorem vn {x:Operand} {t:TypeId} (ho:owned C S (ev C S t x)=true):∀q,q∈aZ C (bG x) (ev C S t x)→isRow (look S q)=true:=fun q hq=>by
 have hx:∀t',bG x=some t'→get S t'=ev C S t x:=fun t' ht'=>by
  cases x with
  | tmp q'=>cases ht';rfl
  | _=>cases ht'
 by_cases hl:aQ (ev C S t x)=true
 ·have hrs:aZ C (bG x) (ev C S t x)=bC C ((bG x).map fun q=>(q,[])) (ev C S t x):=by
   cases hv:ev C S t x<;>first | rfl | (rw[hv]at hl;simp[aQ]at hl)
  rw[hrs]at hq
  have ho1:mm C S (ev C S t x)=true:=by
   unfold owned at ho;rw[gT hl]at ho
   simpa using ho
  refine wR ho1 (fun dp e xs hv q' hq'=> ?_) q hq;cases hs:bG x with
  | none=>rw[hs]at hq';cases hq'
  | some t'=>
    rw[hs]at hq';cases hq';unfold look;simp only[hx t' hs];exact hv
 ·cases hv:ev C S t x with
  | agg ls=>
    rw[hv]at hq ho;obtain⟨k,v,h1,h2⟩:=j0 ls 0 hq;refine wR (List.all_eq_true.1 ho v (List.mem_of_getElem? h1)) (fun dp e xs hv' q' hq'=> ?_) q h2;cases hs:bG x with
    | none=>rw[hs]at hq';cases hq'
    | some t'=>
      rw[hs]at hq';cases hq';unfold look;simp only[hx t' hs,hv,bc,Nat.zero_add];rw[get_at h1];exact hv'
  | box ls=>rw[hv]at hq;simp[aZ,bC]at hq
  | gG ls=>rw[hv]at hq;simp[aZ,bC]at hq
  | _=>rw[hv]at hl;exact absurd rfl hl
theorem Rel.gr:∀(rs:List ao) {S:St C},Rel C B S V w N bs→rs.Nodup→(∀q,q∈rs→isRow (look S q)=true)→Rel C B (aa.gr C S rs) V w N bs∧(∀q,q∈rs→look (aa.gr C S rs) q= .undef∧fN (aa.gr C S rs) q)∧
 (∀q,isRow (look S q)=true→q ∉ rs→look (aa.gr C S rs) q=look S q)∧∀q,look S q= .undef→fN S q→look (aa.gr C S rs) q= .undef∧fN (aa.gr C S rs) q
 | [],S,h,_,_=>⟨h,fun q hq=>by simp at hq,fun q _ _=>rfl,fun q hu ho=>⟨hu,ho⟩⟩
 | r::rs,S,h,hn,hrow=>by
   have hr:=hrow r (by simp);have hnr:r ∉ rs:=(List.nodup_cons.1 hn).1;have h1:=h.drop r hr
   obtain⟨k1,k2,k3,k4⟩:=Rel.gr rs h1 (List.nodup_cons.1 hn).2 (fun q hq=>by
    rw[kb hr (hrow q (List.mem_cons_of_mem _ hq)) (fun e=>hnr (by rw[←e];exact hq))];exact hrow q (List.mem_cons_of_mem _ hq))
   refine⟨k1,fun q hq=> ?_,fun q hq hnq=> ?_,fun q hu ho=> ?_⟩
   ·rcases List.mem_cons.1 hq with rfl | hq
    ·exact k4 q (ke hr).1 (ke hr).2
    ·exact k2 q hq
   ·have hne:q≠r:=fun e=>hnq (by rw[e];simp);have:=kb hr hq hne;show look (aa.gr C (aa.drop S r) rs) q=look S q;rw[k3 q (by rw[this];exact hq) (fun hm=>hnq (List.mem_cons_of_mem _ hm)),this]
   ·have hne:q≠r:=fun e=>by rw[e]at hu;rw[hu]at hr;simp[isRow]at hr
    obtain⟨h1',h2'⟩:=eH.kF h (f:=forget (fun z=>z==r) (fun _=>false)) (fun v hv=>gO _ _ hv) (fun v=>l8 _ _ v) q ho;refine k4 q (nH h hr hu ho hne) ?_;exact fN.put _ rfl (tZ hr) h2'
theorem Ai {sz i j off o T:Nat} (hi:off+T≤sz) (hk:o<sz):(i*sz+off≤j*sz+o∧j*sz+o<i*sz+off+T)↔(j=i∧off≤o∧o<off+T):=by
 constructor
 ·rintro ⟨h1,h2⟩
  have:j=i:=by
   rcases Nat.lt_trichotomy j i with hlt | he | hgt
   ·have:=Nat.mul_le_mul_right sz (show j+1≤i from hlt);rw[Nat.add_mul,Nat.one_mul]at this;omega
   ·exact he
   ·have:=Nat.mul_le_mul_right sz (show i+1≤j from hgt);rw[Nat.add_mul,Nat.one_mul]at this;omega
  subst this;omega
 ·rintro ⟨rfl,h1,h2⟩
  omega
theorem yS (G:Good P C) (h:Rel C B S V w N bs) (ha:lQ n V a) {o:Oper} {t:TypeId} {p x:Operand} (ho:o.op= .store t p x) (hp:aT n p=true) (hx:aT n x=true) {S':St C} (hs:tX C S t p x=some S'):
 ∃w' N' bs',(execOp a.eval o).run P w= .ok .skip w'∧Rel C B S' V w' N' bs':=by
 unfold tX at hs;split at hs
 ·cases hs
 ·rename_i T hT;have tyok:=G.ty t T hT;have hptr:=js h ha hp t (fun _ _=>False);split at hs
  ·rename_i q off hq;rw[hq]at hptr;obtain⟨b,⟨⟨ls,hls⟩,hVq⟩,hc⟩:=hptr;split at hs
   ·rename_i hk;have hsz:(a.eval x).cells.size=T.size:=by rw[zQ h ha hx hk.1];exact hk.2
    obtain⟨w',N',bs',hr,h1⟩:=oL (P:=P) ha hx t q off b hVq T.size 0 h hs (by omega);refine⟨w',N',bs',?_,h1⟩;rw[List.drop_zero]at hr;simp[execOp,ho,hc,Instr.storeAt,Instr.sureAddr,storeVar,tyok.sizeOf w,hsz,hr]
   ·cases hs
  ·rename_i r e i off hq;rw[hq]at hptr;obtain⟨b,m,cap,⟨hrow,hconc⟩,⟨hi0,hltm⟩,hc⟩:=hptr;split at hs
   ·rename_i dp e' xs v hl hread;split at hs
    ·rename_i hcond;obtain⟨rfl,hvl,hfit⟩:=hcond;have hfit:off+T.size≤(leaves (elemAt C e' xs i)).length:=of_decide_eq_true hfit;have hes:(leaves (elemAt C e' xs i)).length=C.sz e':=G.gk e' _;split at hs
     ·rename_i y hy;have hyl:=ur G hy (by rw[hvl];exact hfit);obtain⟨c',hc',hrep⟩:=eH.look h r (cc hrow);rw[hconc]at hc';cases hc';rw[hl]at hrep;obtain⟨cur,lab,rfl,hbr,hlab,hh,hncap,hcapm,hcs,h4⟩:=fk.slot hrep;have hag:=AQ h ha hx hread;have hsz:(a.eval x).cells.size=T.size:=by rw[hag.1];exact hvl
      have hlt':i.toNat<xs.length:=hltm;have hlt:i<(xs.length:Int):=by omega
      have hxi:=tK xs i hi0 hlt (C.U.d e')
      have hroom:i.toNat*C.sz e'+off+T.size≤cur.size:=by
       rw[hcs];have:=Nat.mul_le_mul_right (C.sz e') (show i.toNat+1≤cap by omega);rw[Nat.add_mul,Nat.one_mul]at this;omega
      let vs:=(a.eval x).cells.toList
      have hvs:vs.length=T.size:=by simp[vs,hsz]
      have h1c:∀u∈vs,u.oneCell'=true:=fun u hu=>by
       obtain⟨k,hk,rfl⟩:=List.mem_iff_getElem.1 hu;have hk':k<(leaves v).length:=by rw[hvl,←hvs];exact hk
       obtain⟨u',hu',him⟩:=hag.2 k _ (List.getElem?_eq_getElem hk');have:vs[k]? =some u':=by simpa [vs]using hu'
       rw[List.getElem?_eq_getElem hk]at this;cases this;exact him.cells.2.2
      have hst:=run_storeCells_at (P:=P) b (i.toNat*C.sz e'+off) e' vs 0 cur w hh (by rw[hvs];simpa using hroom) h1c;simp only[Nat.add_zero]at hst
      let cur':=(cur.toList.take (i.toNat*C.sz e'+off)++vs++cur.toList.drop (i.toNat*C.sz e'+off+vs.length)).toArray
      let w':=w.setRow b cur'
      have hst':(storeCells ⟨b,i.toNat*C.sz e'+off,none⟩ (a.eval x).cells.toList).run P w= .ok () w':=hst
      have hrun:(execOp a.eval o).run P w= .ok .skip w':=by
       simp only[execOp,ho,hc,Instr.storeAt,Instr.sureAddr,storeVar,tyok.sizeOf w,hsz,Sem.run_bind,Sem.run_pure,Result.andThen_ok,ne_eq,not_true_eq_false,if_false,hst']
      have hh':w'.heap[b]? =some (.cells cur' e' (0,0)):=setRow_heap w b cur _ e' _ hh;have hw':∀b',b'≠b→w'.heap[b']? =w.heap[b']? :=fun b' hb'=>setRow_other w b b' _ hb';have hget:∀k,cur'[k]? =if i.toNat*C.sz e'+off≤k∧k<i.toNat*C.sz e'+off+vs.length then vs[k-(i.toNat*C.sz e'+off)]? else cur[k]? :=fun k=>mv cur vs _ (by rw[hvs];exact hroom) k
      have hk1:Kept B w':=by
       refine⟨h.kept.os,h.kept.tape,h.kept.output,by simpa [w']using h.kept.size,fun b2 hb2 hm=> ?_⟩
       rw[hw' b2 (fun e=>by
        rcases(h.own _ b hbr).2.2 with h2 | h2
        ·rw[e]at hm;exact hm h2
        ·omega)]
       exact h.kept.block b2 hb2 hm
      have hcs':cur'.size=cap*C.sz e':=by
       rw[←hcs];simp only[cur',List.size_toArray,List.length_append,List.length_take,List.length_drop,Array.length_toList,hvs];omega
      have hcell:∀j k,k<C.sz e'→¬(off≤k∧k<off+T.size)→w'.cell? ⟨b,j*C.sz e'+k,none⟩=w.cell? ⟨b,j*C.sz e'+k,none⟩:=fun j k hk hn=>by
       rw[cell_of_row w' b _ cur' e' (0,0) hh',cell_of_row w b _ cur e' (0,0) hh,hget,hvs,if_neg];rw[Ai (by omega) hk];exact fun hh=>hn hh.2
      have leaf:∀{R:Nat→C.PV→Value→Prop} (hnew:∀(k:Nat) (v0:C.PV),(leaves v)[k]? =some v0→∃u,(a.eval x).cells[k]? =some u∧R k v0 u) {Q:Nat→Nat→C.PV→Value→Prop},(∀j z,xs[j]? =some z→∀k v0 u,(leaves (C.enc e' z))[k]? =some v0→cur[j*C.sz e'+k]? =some u→nI C w N (fun b'=>bs r b'∧lab b'=some (j,k)) dp v0 u→Q j k v0 u)→
       (∀k v0 u,R k v0 u→Q i.toNat (off+k) v0 u)→
       ∀j z,(xs.set i.toNat y)[j]? =some z→∀k v0,(leaves (C.enc e' z))[k]? =some v0→∃u,cur'[j*C.sz e'+k]? =some u∧Q j k v0 u:= @fun R hnew Q q1 q2 j z hz k v0 hv0=>by
       have hksz:k<C.sz e':=by rw[←G.gk e' z];exact(List.getElem?_eq_some_iff.1 hv0).1
       rw[hget,hvs]
       have hold:∀z0,xs[j]? =some z0→(leaves (C.enc e' z0))[k]? =some v0→¬(j=i.toNat∧off≤k∧k<off+T.size)→∃u,(if i.toNat*C.sz e'+off≤j*C.sz e'+k∧j*C.sz e'+k<i.toNat*C.sz e'+off+T.size then vs[j*C.sz e'+k-(i.toNat*C.sz e'+off)]? else cur[j*C.sz e'+k]?)=some u∧Q j k v0 u:=fun z0 hz0 hv hn=>by
        rw[if_neg (by rw[Ai (by omega) hksz];exact hn)];obtain⟨u,hu,hin⟩:=h4 j z0 hz0 k v0 hv;exact⟨u,hu,q1 j z0 hz0 k v0 u hv hu hin⟩
       rw[List.getElem?_set]at hz
       by_cases e1:i.toNat=j
       ·subst e1;rw[if_pos rfl,if_pos hlt']at hz;cases hz;rw[hyl,nN _ _ _ (by rw[hvl];exact hfit),hvl]at hv0;split at hv0
        ·rename_i hkk;rw[if_pos (by omega)];obtain⟨u,hu,him⟩:=hnew _ _ hv0;refine⟨u,?_,?_⟩
         ·rw[show i.toNat*C.sz e'+k-(i.toNat*C.sz e'+off)=k-off by omega]
          simpa [vs]using hu
         ·have:=q2 (k-off) v0 u him;rw[show off+(k-off)=k by omega]at this;exact this
        ·rename_i hkk;exact hold _ hxi hv0 (fun hh=>hkk hh.2)
       ·rw[if_neg e1]at hz;exact hold z hz hv0 (fun hh=>e1 hh.1.symm)
      unfold zD at hs;split at hs
      ·rename_i hdeep;split at hs
       ·cases hs
       rename_i hrn;have hrn:r ∉ aZ C (bG x) (ev C S t x):=fun hm=>hrn (by simpa using hm);split at hs
       ·rename_i hg;cases hs;rw[Bool.and_eq_true,Bool.and_eq_true]at hg;obtain⟨rfl,hownd,hnd⟩:=hg;have hnd:=of_decide_eq_true hnd;obtain⟨rootAt,hra,hinj,hgift⟩:=xd G h ha hx hread hownd hnd;obtain⟨hR1,hk1',hk2',hk3'⟩:=Rel.gr _ h hnd (fun q hq=>vn hownd q hq);have hl1:look (gr C S (aZ C (bG x) (ev C S t x))) r= .own true e' xs:=by rw[hk2' r (ik hl) hrn];exact hl
        have hdr:∀b' k q,rootAt k=some q→bs q b'→¬bs r b':=fun b' k q hq hb hbr'=>hrn (by rw[h.km r q b' hbr' hb];exact hra k q hq)
        classical
        let lab':Nat→Option (Nat×Nat):=fun b'=>if bs r b' then lab b' else if hh:∃k q,rootAt k=some q∧bs q b' then some (i.toNat,off+Classical.choose hh)else none
        have hlab':∀b' k q,rootAt k=some q→bs q b'→lab' b'=some (i.toNat,off+k):=fun b' k q hq hb=>by
         have hex:∃k q,rootAt k=some q∧bs q b':=⟨k,q,hq,hb⟩;simp only[lab',if_neg (hdr b' k q hq hb),dif_pos hex];obtain⟨q',hq',hb'⟩:=Classical.choose_spec hex;rw[hinj _ _ q' hq' (by rw[hq,h.km q q' b' hb hb'])]
        have hNs:∀b',N b'→w'.heap[b']? =w.heap[b']? :=fun b' hn=>hw' b' (fun e=>by rw[e]at hn;exact(h.own r b hbr).1 hn)
        obtain⟨bs',hR⟩:=hR1.ym (w':=w') r hl1 hconc off (off+T.size) hw' (by simp[w']) hk1 hcell (fun q=>q∈aZ C (bG x) (ev C S t x)) (fun q hq=>by
         rw[jN _ (cc (ik hl1)) (hk1' q hq).2 (fun e=>hrn (by rw[←e];exact hq))];exact(hk1' q hq).1) (N':=N) (Bd:=fun b'=>bs r b'∨∃q,q∈aZ C (bG x) (ev C S t x)∧bs q b') (fun _ h=>h) (fun _ h=> .inl h) (fun _ h=>h) (fun b' hb hn=>hb.elim (fun hb=>(h.own r b' hb).1 hn) (fun⟨q,_,hb⟩=>(h.own q b' hb).1 hn)) (dp':=true) (xs':=xs.set i.toNat y)
         (.inr ⟨b,cap,cur',lab',by rw[List.length_set],.inl hbr,by simp only[lab',if_pos hbr];exact hlab,hh',by rw[List.length_set];exact hncap,hcapm,hcs',leaf hgift (Q:=fun j k v0 u=>nI C w' N (fun b'=>(bs r b'∨∃q,q∈aZ C (bG x) (ev C S t x)∧bs q b')∧lab' b'=some (j,k)) true v0 u)
           (fun j z hz k v0 u hv0 hu hin=>hin.move (fun b' hb=>hb.elim (hNs b') (fun hb=>hw' b' (fun e=>by rw[e,hlab]at hb;cases hb.2))) (fun _ h=>h) (fun b' hb=>⟨.inl hb.1,by simp only[lab',if_pos hb.1];exact hb.2⟩))
           (fun k v0 u hin=>hin.move (fun b' hb=>hb.elim (hNs b') (fun⟨q,hq,hb⟩=>hw' b' (fun e=>by rw[e]at hb;exact hdr b k q hq hb hbr))) (fun _ h=>h) (fun b' ⟨q,hq,hb⟩=>⟨.inr ⟨q,hra k q hq,hb⟩,hlab' b' k q hq hb⟩))⟩)
        exact⟨w',N,bs',hrun,hR⟩
       ·cases hs;obtain⟨N1,bs1,hR1,hN1,hice,hsub,hrest,hn1⟩:=h.ij (aZ C (bG x) (ev C S t x));have hl1:=kT _ hl hrn
        have hdis1:∀b',bs r b'→¬N1 b':=fun b' hb hn=>by
         rcases hn1 b' hn with hn | ⟨r',hr',hb'⟩
         ·exact(h.own r b' hb).1 hn
         ·exact hrn (by rw[h.km r r' b' hb hb'];exact hr')
        let N':Nat→Prop:=fun b'=>N1 b'∨(bs r b'∧lab b'≠none)
        have hsame:∀b',N' b'→w'.heap[b']? =w.heap[b']? :=fun b' hb'=>hw' b' (fun e=>by
         rw[e]at hb';exact hb'.elim (hdis1 b hbr) (fun hb'=>hb'.2 hlab))
        have hbeh:∀b',behind S N bs (aZ C (bG x) (ev C S t x)) b'→N1 b':=fun b' hb=>hb.elim (hN1 b') (fun⟨r',hr',hown,hb⟩=>hice r' hr' hown b' hb)
        obtain⟨bs',hR⟩:=hR1.ym (w':=w') r hl1 hconc off (off+T.size) hw' (by simp[w']) hk1 hcell (fun _=>False) (fun _ hq=>hq.elim) (N':=N') (Bd:=fun b'=>bs r b'∧lab b'=none) (fun _ h=> .inl h)
         (fun b' hb=>hb.imp id (fun hb=> .inl (hrest r b' hrn hb.1))) (fun b' hb=> .inl (hrest r b' hrn hb.1)) (fun b' hb hn=>hn.elim (hdis1 b' hb.1) (fun hn=>hn.2 hb.2)) (dp':=false) (xs':=xs.set i.toNat y)
         (.inr ⟨b,cap,cur',fun _=>none,by rw[List.length_set],⟨hbr,hlab⟩,rfl,hh',by rw[List.length_set];exact hncap,hcapm,hcs',leaf hag.2 (Q:=fun j k v0 u=>nI C w' N' _ false v0 u)
           (fun j z hz k v0 u hv0 hu hin=>gC.mono (hin.Co (N':=N') (fun b' hb=> .inl (hN1 b' hb)) (fun b' hb=> .inr ⟨hb.1,by rw[hb.2];simp⟩)) hsame (fun _ h=>h))
           (fun k v0 u him=>gC.mono (gC.mono him (fun _ _=>rfl) (fun b' hb=>(.inl (hbeh b' hb):N' b'))) hsame (fun _ h=>h))⟩)
        exact⟨w',N',bs',hrun,hR⟩
      ·rename_i hdeep;have hdeep:gp C e'=false:=by simpa using hdeep
       cases hs;have hflat:∀(z:C.U.T e') (k:Nat) (v0:C.PV),(leaves (C.enc e' z))[k]? =some v0→∀(f:TypeId) (zs:List (C.U.T f)),v0≠PV.sl f zs:=fun z k v0 hv=>G.jg e' hdeep z v0 (List.mem_of_getElem? hv)
       obtain⟨bs',hR⟩:=h.ym (w':=w') r hl hconc off (off+T.size) hw' (by simp[w']) hk1 hcell (fun _=>False) (fun _ hq=>hq.elim) (N':=N) (Bd:=bs r) (fun _ h=>h) (fun _ h=> .inl h) (fun _ h=> .inl h) (fun b' hb=>(h.own r b' hb).1) (dp':=true) (xs':=xs.set i.toNat y)
        (.inr ⟨b,cap,cur',fun _=>none,by rw[List.length_set],hbr,rfl,hh',by rw[List.length_set];exact hncap,hcapm,hcs',fun j z hz k v0 hv0=>by
          obtain⟨u,hu,hq⟩:=leaf hag.2 (Q:=fun j k v0 u=>(∀(f:TypeId) (zs:List (C.U.T f)),v0≠PV.sl f zs)→nI C w' N (fun b'=>bs r b'∧(none:Option (Nat×Nat))=some (j,k)) true v0 u)
           (fun j z hz k v0 u hv0 hu hin hn=>hin.scalar hn) (fun k v0 u him hn=>nI.scalar (dp:=false) (Bo:=fun _=>False) him hn) j z hz k v0 hv0
          exact⟨u,hu,hq (hflat z k v0 hv0)⟩⟩)
       exact⟨w',N,bs',hrun,hR⟩
     ·cases hs
    ·cases hs
   ·cases hs
  ·cases hs
end
end Go.Proofs.YtmapddgocpkgeaaGreat.aa
namespace Go.Proofs.YtmapddgocpkgeaaGreat.aa
open Go.RowKit
set_option linter.unusedVariables false
set_option linter.unusedSimpArgs false
variable {P:Program} {C:Ctx}
section
variable {B:fK} {S:St C} {V:Nat→Value} {w w':World} {N:Nat→Prop} {bs:ao→Nat→Prop}
theorem Rel.overwrite (G:Good P C) (h:Rel C B S V w N bs) {r:ao} {dp:Bool} {e:TypeId} {xs xs':List (C.U.T e)} (hl:look S r= .own dp e xs) (hflat:gp C e=false) (hsz1:C.sz e=1) {b cap:Nat} {cur cur':Array Value} (hbr:bs r b)
 (hc:jf V w r=some (.slice (some ⟨b,0,none⟩) xs.length cap)) (hncap:xs.length≤cap) (hcapm:cap≤maxLen) (hcs:cur'.size=cap*C.sz e) (hh:w.heap[b]? =some (.cells cur e (0,0))) (hw:w'=w.setRow b cur')
 (hlen:xs'.length=xs.length) (hcell:∀(j:Nat) (x:C.U.T e),xs'[j]? =some x→∀v,(leaves (C.enc e x))[0]? =some v→∃u,cur'[j]? =some u∧gC C w' (fun _=>False) v u):
 ∃bs',Rel C B (pn C S r dp e xs') V w' N bs':=by
 have hh':w'.heap[b]? =some (.cells cur' e (0,0)):=by rw[hw];exact setRow_heap w b cur _ e _ hh
 have hother:∀b',b'≠b→w'.heap[b']? =w.heap[b']? :=fun b' hb'=>by rw[hw];exact setRow_other w b b' _ hb'
 have hk:Kept B w':=by
  refine⟨by rw[hw];exact h.kept.os,by rw[hw];exact h.kept.tape,by rw[hw];exact h.kept.output,by rw[hw];simpa using h.kept.size,fun b2 hb2 hm=> ?_⟩
  rw[hother b2 (fun e=>by
   rcases(h.own _ b hbr).2.2 with h2 | h2
   ·rw[e]at hm;exact hm h2
   ·omega)]
  exact h.kept.block b2 hb2 hm
 have hown:fk C w' N (bs r) dp e xs' (.slice (some ⟨b,0,none⟩) xs.length cap):=by
  refine .inr ⟨b,cap,cur',fun _=>none,by rw[hlen],hbr,rfl,hh',by rw[hlen];exact hncap,hcapm,hcs,fun j x hx i v hi=> ?_⟩
  have h0:i=0:=by
   have:=(List.getElem?_eq_some_iff.1 hi).1;rw[G.gk,hsz1]at this;omega
  subst h0;obtain⟨u,hu,him⟩:=hcell j x hx v hi;refine⟨u,by rw[hsz1,Nat.mul_one,Nat.add_zero];exact hu,?_⟩;have him':gC C w' N v u:=him.mono (fun _ h=>h.elim) (fun _ h=>h.elim);cases dp with
  | false=>exact him'
  | true=>
    cases v with
    | sl f ys=>exact absurd rfl (G.jg e hflat x _ (List.mem_of_getElem? hi) f ys)
    | _=>exact him'
 exact h.ym r hl hc 0 1 hother (by rw[hw];simp) hk (fun j o ho hn=>absurd ⟨Nat.zero_le _,by omega⟩ hn) (fun _=>False) (fun q hq=>hq.elim) (N':=N) (Bd:=bs r) (fun _ h=>h) (fun _ h=> .inl h) (fun _ h=> .inl h) (fun b' hb'=>(h.own r b' hb').1) hown
end
section
variable {B:fK} {n:Nat} {S:St C} {d:Nat} {V:Nat→Value} {a:Act} {w:World} {N:Nat→Prop} {bs:ao→Nat→Prop}
theorem tb {r:ao} {dp:Bool} {e:TypeId} {xs:List (C.U.T e)} (hd:get S d= .undef) (hr:r.1≠d):get (pn C S r dp e xs) d= .undef:=by
 unfold pn
 have h1:∀(S':St C) (v:C.PV),get (put S' r v) d=get S' d:=fun S' v=>by
  unfold put;rw[fj,if_neg (by intro h;exact hr h.1)]
 rw[h1];unfold dK;rw[get_map _ _ _ rfl,h1,hd];rfl
theorem vE (G:Good P C) {e:TypeId} {x:C.U.T e} {v:C.PV} {u:Value} {N:Nat→Prop} (hflat:gp C e=false) (hi:v∈leaves (C.enc e x)) (h:gC C w N v u) {w':World}:gC C w' (fun _=>False) v u:=by
 cases h with
 | int k m=>exact .int k m
 | bool b=>exact .bool b
 | str s=>exact .str s
 | nil e' A c=>exact absurd rfl (G.jg e hflat x _ hi e' [])
 | sl e' ys b o c u _ _ _ _=>exact absurd rfl (G.jg e hflat x _ hi e' ys)
theorem qY (G:Good P C) {e:TypeId} {x:C.U.T e} {v:C.PV} {u:Value} {Bx:Nat→Prop} {dp:Bool} (hflat:gp C e=false) (hi:v∈leaves (C.enc e x)) (h:nI C w N Bx dp v u) {w':World}:gC C w' (fun _=>False) v u:=by
 cases dp with
 | false=>exact vE G hflat hi (N:=N) h
 | true=>
   cases v with
   | sl f ys=>exact absurd rfl (G.jg e hflat x _ hi f ys)
   | _=>exact vE G hflat hi (N:=N) h
theorem zR (h:je P C B n S d V a w N bs) {o:Oper} {c:Call} {s x:Operand} {t t':TypeId} (ho:o.op= .call c) (hcl:c.callee= .builtin .copy) (hxs:c.args.toList=[s,x]) (hts:c.argTypes.toList=[t,t']) (hs:aT n s=true) (hx:aT n x=true) {p:Option Prop} {S':St C}
 (he:Aq C S d s x t t'=some (p,S')) (hp:p.getD True):Out P C B S' d V a o w:=by
 unfold Aq at he;split at he
 ·rename_i dp r e xs e' zs hrow hread;split at he
  ·rename_i hcond;obtain⟨rfl,hty,hflat,hlen1,_⟩:=hcond;split at he
   ·rename_i ys hys;simp only[Option.some.injEq,Prod.mk.injEq]at he;obtain⟨rfl,rfl⟩:=he;simp only[Option.getD_some]at hp;obtain⟨hx0,hy0⟩:=hp
    obtain⟨rfl,hzs⟩:e'=e∧HEq zs ys:=by
     unfold rF at hys;split at hys
     ·rename_i hee;subst hee;cases hys;exact⟨rfl,HEq.rfl⟩
     ·cases hys
    cases hzs;have G:=h.gD;have hsz1:C.sz e'=1:=hlen1;obtain⟨hu,hsl⟩:=G.jY hty;obtain⟨ie,z,hie,_,hisz,_⟩:=G.elem t' e' hsl;generalize hk:(if(zs.length:Int)<(xs.length:Int)then(zs.length:Int)else(xs.length:Int))=k;have hrel:=h.rel (.int .i64 k);obtain⟨hrowat,hlook⟩:=(h.row hs hrow (.int .i64 k)).2 dp r rfl;obtain⟨c',hc',hrep⟩:=eH.look hrel r (cc hrowat.1);rw[hrowat.2]at hc';cases hc';rw[hlook]at hrep;have hrep:fk C w N (bs r) dp e' xs (a.eval s):=hrep;rcases hrep with⟨_,rfl⟩ | ⟨b,cap,cur,lab,hsv,hbr,hlab,hh,hncap,hcapm,hcs,h4⟩
    ·simp at hx0
    obtain⟨_,him⟩:=h.read hx hread;have him:=him rfl;generalize hxv:a.eval x=xv at him;rcases him.mL with⟨hnil,_⟩ | ⟨b2,o2,cap2,u,rfl,hNb,hcap2,hcu,hcv⟩
    ·rw[hnil]at hy0;simp at hy0
    obtain⟨m,hm,hm3,hm4⟩:∃m,m=Nat.min zs.length xs.length∧(zs.length<xs.length→m=zs.length)∧(¬zs.length<xs.length→m=xs.length):=by
     refine⟨_,rfl,fun h=> ?_,fun h=> ?_⟩
     ·exact Nat.min_eq_left (by omega)
     ·exact Nat.min_eq_right (by omega)
    let cs:List Value:=(List.range m).map fun j=>u j 0
    have hm1:m≤zs.length:=by omega
    have hm2:m≤xs.length:=by omega
    have hcsl:cs.length=m:=by simp[cs]
    have hleaf:∀(y:C.U.T e'),∃v,leaves (C.enc e' y)=[v]:=fun y=>by
     have:=G.gk e' y;rw[hsz1]at this
     match hh:leaves (C.enc e' y),this with
     | [v],_=>exact⟨v,rfl⟩
    have hsrc:∀(j:Nat) (v:Value),cs[j]? =some v→w.cell? ((⟨b2,o2,none⟩:Addr).add j)=some v:=fun j v hj=>by
     simp only[cs,List.getElem?_map]at hj;cases hr:(List.range m)[j]? with
     | none=>rw[hr]at hj;cases hj
     | some j'=>
       rw[hr]at hj;cases hj;obtain⟨hlt,hje⟩:=List.getElem?_eq_some_iff.1 hr;rw[List.getElem_range]at hje;subst hje;rw[List.length_range]at hlt;have hy:zs[j]? =some zs[j]:=List.getElem?_eq_getElem (by omega);obtain⟨v0,hv0⟩:=hleaf zs[j];have:=hcu j _ hy 0 v0 (by rw[hv0];rfl);rw[hsz1,Nat.mul_one,Nat.add_zero]at this;rw[Addr.add_lit];exact this
    have h1c:∀v∈cs,v.oneCell'=true:=fun v hv=>by
     obtain⟨j,hj,rfl⟩:=List.mem_map.1 hv;have hj:=List.mem_range.1 hj;have hy:zs[j]? =some zs[j]:=List.getElem?_eq_getElem (by omega);obtain⟨v0,hv0⟩:=hleaf zs[j];exact(hcv j _ hy 0 v0 (by rw[hv0];rfl)).cells.2.2
    have hroom:cs.length≤cur.size:=by rw[hcsl,hcs,hsz1,Nat.mul_one];omega
    have hrun0:=run_copy_row (P:=P) w t' t' o.type e' b 0 xs.length cap ⟨b2,o2,none⟩ zs.length cap2 cur e' cs hu (by rw[hie];simp[hisz,hsz1]) hh (by rw[hcsl,hm]) hsrc (by simpa using hroom) h1c;have hargs:c.args= #[s,x]:=by rw[←Array.toArray_toList (xs:=c.args),hxs]
    have htys:c.argTypes= #[t',t']:=by rw[←Array.toArray_toList (xs:=c.argTypes),hts]
    let cur':=(cur.toList.take 0++cs++cur.toList.drop (0+cs.length)).toArray
    have hkm:k=(m:Int):=by
     rw[←hk];split<;>omega
    have hrun:(execOp a.eval o).run P w= .ok (.value (.int .i64 k)) (w.setRow b cur'):=by
     rw[hkm];simp[execOp,ho,resolve,hcl,hargs,htys,invoke,builtin,hsv,hxv,hrun0,hcsl,goInt,cur']
    have hget:∀j,cur'[j]? =if j<m then some (u j 0)else cur[j]? :=fun j=>by
     have:=mv cur cs 0 (by simpa using hroom) j;rw[show cur'=(cur.toList.take 0++cs++cur.toList.drop (0+cs.length)).toArray from rfl,this,hcsl]
     by_cases hj:j<m
     ·rw[if_pos (by omega),if_pos hj];simp[cs,hj]
     ·rw[if_neg (by omega),if_neg hj]
    obtain⟨bs',h1⟩:=hrel.overwrite (xs:=xs) (cur':=cur') (xs':=zs.take xs.length++xs.drop zs.length) G hlook hflat hsz1 hbr (by rw[hrowat.2,hsv]) hncap hcapm (by
     rw[←hcs];simp only[cur',List.size_toArray,List.length_append,List.length_take,List.length_drop,Array.length_toList,hcsl];omega) hh rfl (by rw[List.length_append,List.length_take,List.length_drop];omega) (fun j y hy v hv=>by
     have hmem:=List.mem_of_getElem? hv;rw[hget]
     by_cases hj:j<m
     ·rw[if_pos hj];rw[List.getElem?_append_left (by rw[List.length_take];omega),List.getElem?_take_of_lt (by omega)]at hy;exact⟨_,rfl,vE G hflat hmem (hcv j y hy 0 v hv)⟩
     ·rw[if_neg hj];have hlt:=(List.getElem?_eq_some_iff.1 hy).1;rw[List.length_append,List.length_take,List.length_drop]at hlt
      have hmy:zs.length≤j∧zs.length≤xs.length:=by
       have h5:min xs.length zs.length=m:=by rw[Nat.min_comm];exact hm.symm
       omega
      rw[List.getElem?_append_right (by rw[List.length_take];omega),List.length_take,Nat.min_eq_right hmy.2,List.getElem?_drop,show zs.length+(j-zs.length)=j by omega]at hy;obtain⟨u',hu',hin⟩:=h4 j y hy 0 v hv;rw[hsz1,Nat.mul_one,Nat.add_zero]at hu';exact⟨u',hu',qY G hflat hmem hin⟩)
    refine⟨.int .i64 k,w.setRow b cur',N,bs',hrun,h1.fill d _ (tb h.vU (fun e=> ?_)) (fp V d _)⟩;have:=hlook;rw[show r=(d,r.2)from by rw[←e]]at this;unfold look at this;rw[h.vU,gf]at this;cases this
   ·cases he
  ·cases he
 ·cases he
theorem yK (h:je P C B n S d V a w N bs) {o:Oper} {c:Call} {s x:Operand} {t t':TypeId} (ho:o.op= .call c) (hcl:c.callee= .builtin .copy) (hxs:c.args.toList=[s,x]) (hts:c.argTypes.toList=[t,t']) (hs:aT n s=true) (hx:aT n x=true) {p:Option Prop} {S':St C}
 (he:yc C S d s x t t'=some (p,S')) (hp:p.getD True):Out P C B S' d V a o w:=by
 unfold yc at he;split at he
 ·rename_i r0 e lo hi r e2 lo' hi' hevs hevx;split at he
  ·rename_i dp e3 xs hlook;split at he
   ·rename_i hcond;obtain⟨rfl,rfl,rfl,hrd,rfl,hty,hflat,hlen1⟩:=hcond;cases he;have G:=h.gD;have hsz1:C.sz e3=1:=hlen1;obtain⟨hu,hsl⟩:=G.jY hty;obtain⟨ie,z,hie,_,hisz,_⟩:=G.elem t' e3 hsl;have hv1:=h.ev hs t' undef;rw[hevs]at hv1;obtain⟨b,nl,cap,hA,⟨lo0,lohi,hin,hncap⟩,hsv⟩:=hv1;have hv2:=h.ev hx t' undef;rw[hevx]at hv2;obtain⟨b2,nl2,cap2,hA2,⟨lo0',lohi',hin',_⟩,hxv⟩:=hv2
    have hsame:b2=b∧nl2=nl∧cap2=cap:=by
     have:=hA2.2;rw[hA.2]at this;have:=Option.some.inj this
     injection this with q1 q2 q3
     injection q1 with q1
     injection q1 with q1
     exact⟨q1.symm,q2.symm,q3.symm⟩
    obtain⟨rfl,rfl,rfl⟩:=hsame;obtain⟨L,rfl⟩:∃L:Nat,lo=L:=⟨lo.toNat,by omega⟩;obtain⟨H,rfl⟩:∃L:Nat,hi=L:=⟨hi.toNat,by omega⟩;obtain⟨L',rfl⟩:∃L:Nat,lo'=L:=⟨lo'.toNat,by omega⟩;obtain⟨H',rfl⟩:∃L:Nat,hi'=L:=⟨hi'.toNat,by omega⟩;simp only[Int.toNat_natCast]at*
    obtain⟨m,hm,hmn,hm1,hm2⟩:∃m:Nat,(if(H':Int)-(L':Int)<(H:Int)-(L:Int)then(H':Int)-(L':Int)else(H:Int)-(L:Int))=(m:Int)∧m=Nat.min (H'-L') (H-L)∧m≤H'-L'∧m≤H-L:=by
     refine⟨Nat.min (H'-L') (H-L),?_,rfl,Nat.min_le_left _ _,Nat.min_le_right _ _⟩;split
     ·rw[show Nat.min (H'-L') (H-L)=H'-L' from Nat.min_eq_left (by omega)];omega
     ·rw[show Nat.min (H'-L') (H-L)=H-L from Nat.min_eq_right (by omega)];omega
    rw[hm];simp only[Int.toNat_natCast];have hrel:=h.rel (.int .i64 (m:Int))
    have hrowat:bL C S (jJ V d (.int .i64 (m:Int))) w r (.slice (some ⟨b2,0,none⟩) nl2 cap2):=by
     have hv1:=h.ev hs t' (.int .i64 (m:Int));rw[hevs]at hv1;obtain⟨b3,nl3,cap3,hA3,_,hsv3⟩:=hv1
     have h6:jf (jJ V d (.int .i64 (m:Int))) w r=jf (jJ V d undef) w r:=by
      unfold jf;rw[gZ V d _ _ hrd,gZ V d _ _ hrd]
     exact⟨hA.1,h6.trans hA.2⟩
    obtain⟨c',hc',hrep⟩:=eH.look hrel r (cc hrowat.1);rw[hrowat.2]at hc';cases hc';rw[hlook]at hrep;have hrep:fk C w N (bs r) dp e3 xs (.slice (some ⟨b2,0,none⟩) nl2 cap2):=hrep;rcases hrep with⟨hno,_⟩ | ⟨b,cap,cur,lab,heq,hbr,hlab,hh,hncap,hcapm,hcs,h4⟩
    ·cases hno
    cases heq;rw[hsz1,Nat.mul_one]at hsv hxv hcs;obtain⟨cs,hcsd⟩:∃cs:List Value,cs=(cur.toList.drop L').take m:=⟨_,rfl⟩;have hcsl:cs.length=m:=by simp only[hcsd,List.length_take,List.length_drop,Array.length_toList,hcs];omega
    have hcsg:∀j,cs[j]? =if j<m then cur[L'+j]? else none:=fun j=>by
     simp only[hcsd,List.getElem?_take,List.getElem?_drop,Array.getElem?_toList]
    have hleaf:∀(y:C.U.T e3),∃v,leaves (C.enc e3 y)=[v]:=fun y=>by
     have:=G.gk e3 y;rw[hsz1]at this
     match hh:leaves (C.enc e3 y),this with
     | [v],_=>exact⟨v,rfl⟩
    have hsrc:∀(j:Nat) (v:Value),cs[j]? =some v→w.cell? ((⟨b2,L',none⟩:Addr).add j)=some v:=fun j v hj=>by
     rw[hcsg]at hj;split at hj
     ·rw[Addr.add_lit];simp[World.cell?,hh,hj]
     ·cases hj
    have h1c:∀v∈cs,v.oneCell'=true:=fun v hv=>by
     obtain⟨j,hj⟩:=List.getElem?_of_mem hv;rw[hcsg]at hj;split at hj
     ·rename_i hjm;have hy:xs[L'+j]? =some xs[L'+j]:=List.getElem?_eq_getElem (by omega);obtain⟨v0,hv0⟩:=hleaf xs[L'+j];obtain⟨u,hu1,hu2⟩:=h4 (L'+j) _ hy 0 v0 (by rw[hv0];rfl);rw[hsz1,Nat.mul_one,Nat.add_zero,hj]at hu1;cases hu1;exact(qY G hflat (by rw[hv0];simp) hu2 (w':=w)).cells.2.2
     ·cases hj
    have hroom:L+cs.length≤cur.size:=by rw[hcsl,hcs];omega
    have hrun0:=run_copy_row (P:=P) w t' t' o.type e3 b2 L (H-L) (cap2-L) ⟨b2,L',none⟩ (H'-L') (cap2-L') cur e3 cs hu (by rw[hie];simp[hisz,hsz1]) hh (by rw[hcsl,hmn]) hsrc hroom h1c;have hargs:c.args= #[s,x]:=by rw[←Array.toArray_toList (xs:=c.args),hxs]
    have htys:c.argTypes= #[t',t']:=by rw[←Array.toArray_toList (xs:=c.argTypes),hts]
    let cur':=(cur.toList.take L++cs++cur.toList.drop (L+m)).toArray
    have hrun:(execOp a.eval o).run P w= .ok (.value (.int .i64 (m:Int))) (w.setRow b2 cur'):=by
     simp[execOp,ho,resolve,hcl,hargs,htys,invoke,builtin,hsv,hxv,hrun0,hcsl,goInt,cur']
    have hget:∀j,cur'[j]? =if j<L then cur[j]? else if j<L+m then cur[L'+(j-L)]? else cur[j]? :=fun j=>by
     have h7:L≤cur.size:=by omega
     rw[show cur'=(cur.toList.take L++cs++cur.toList.drop (L+m)).toArray from rfl,List.getElem?_toArray,List.append_assoc]
     by_cases hj:j<L
     ·rw[if_pos hj,List.getElem?_append_left (by rw[List.length_take,Array.length_toList];omega),List.getElem?_take_of_lt hj,Array.getElem?_toList]
     ·rw[if_neg hj,List.getElem?_append_right (by rw[List.length_take,Array.length_toList];omega),List.length_take,Array.length_toList,Nat.min_eq_left h7]
      by_cases hj2:j<L+m
      ·rw[if_pos hj2,List.getElem?_append_left (by rw[hcsl];omega),hcsg,if_pos (by omega)]
      ·rw[if_neg hj2,List.getElem?_append_right (by rw[hcsl];omega),hcsl,List.getElem?_drop,Array.getElem?_toList];congr 1;omega
    have h8:(((xs.take H').drop L').take (H-L)).length=m:=by
     have h9:m=min (H'-L') (H-L):=hmn;rw[List.length_take,List.length_drop,List.length_take];omega
    have hxg:∀j,(xs.take L++(((xs.take H').drop L').take (H-L)++xs.drop (L+m)))[j]? =if j<L then xs[j]? else if j<L+m then xs[L'+(j-L)]? else xs[j]? :=fun j=>by
     by_cases hj:j<L
     ·rw[if_pos hj,List.getElem?_append_left (by rw[List.length_take];omega),List.getElem?_take_of_lt hj]
     ·rw[if_neg hj,List.getElem?_append_right (by rw[List.length_take];omega),List.length_take,Nat.min_eq_left (by omega)]
      by_cases hj2:j<L+m
      ·rw[if_pos hj2,List.getElem?_append_left (by rw[h8];omega),List.getElem?_take_of_lt (by omega),List.getElem?_drop,List.getElem?_take_of_lt (by omega)]
      ·rw[if_neg hj2,List.getElem?_append_right (by rw[h8];omega),h8,List.getElem?_drop];congr 1;omega
    obtain⟨bs',h1⟩:=hrel.overwrite (xs:=xs) (cur':=cur') (xs':=xs.take L++(((xs.take H').drop L').take (H-L)++xs.drop (L+m))) G hlook hflat hsz1 hbr hrowat.2 hncap hcapm (by
     rw[hsz1,Nat.mul_one];simp only[cur',List.size_toArray,List.length_append,List.length_take,List.length_drop,Array.length_toList,hcsl,hcs]
     omega) hh rfl (by
      rw[List.length_append,List.length_append,h8,List.length_take,List.length_drop];omega) (fun j y hy v hv=>by
     have hmem:=List.mem_of_getElem? hv;rw[hxg]at hy;rw[hget]
     have at_:∀i,xs[i]? =some y→∃u,cur[i]? =some u∧gC C (w.setRow b2 cur') (fun _=>False) v u:=fun i hi=>by
      obtain⟨u',hu',hin⟩:=h4 i y hi 0 v hv;rw[hsz1,Nat.mul_one,Nat.add_zero]at hu';exact⟨u',hu',qY G hflat hmem hin⟩
     by_cases hj:j<L
     ·rw[if_pos hj]at hy⊢;exact at_ _ hy
     ·rw[if_neg hj]at hy⊢
      by_cases hj2:j<L+m
      ·rw[if_pos hj2]at hy⊢;exact at_ _ hy
      ·rw[if_neg hj2]at hy⊢;exact at_ _ hy)
    exact⟨.int .i64 (m:Int),w.setRow b2 cur',N,bs',hrun,h1.fill d _ (tb h.vU hrd) (fp V d _)⟩
   ·cases he
  ·cases he
 ·cases he
theorem z1 (h:je P C B n S d V a w N bs) {o:Oper} {c:Call} {s x:Operand} {t t':TypeId} (ho:o.op= .call c) (hcl:c.callee= .builtin .copy) (hxs:c.args.toList=[s,x]) (hts:c.argTypes.toList=[t,t']) (hs:aT n s=true) (hx:aT n x=true) {p:Option Prop} {S':St C}
 (he:Ah C S d s x t t'=some (p,S')) (hp:p.getD True):Out P C B S' d V a o w:=by
 unfold Ah at he;split at he
 ·rename_i r hr;cases he;exact yK h ho hcl hxs hts hs hx hr hp
 ·exact zR h ho hcl hxs hts hs hx he hp
end
end Go.Proofs.YtmapddgocpkgeaaGreat.aa
namespace Go.Proofs.YtmapddgocpkgeaaGreat.aa
open Go.RowKit
set_option linter.unusedVariables false
set_option linter.unusedSimpArgs false
variable {P:Program} {C:Ctx}
section
variable {B:fK} {n:Nat} {S:St C} {d:Nat} {V:Nat→Value} {a:Act} {w:World} {N:Nat→Prop} {bs:ao→Nat→Prop}
theorem nL (G:Good P C) (e:TypeId) (hpos:0<C.sz e) {Q:Nat→Nat→C.PV→Value→Prop} (m:Nat):
 ∀(ps:List (Nat×Operand)) (xs xs':List (C.U.T e)) (cells:Array Value),mJ C e S ps xs=some xs'→xs.length=m→cells.size=m*C.sz e→
  (∀q,q∈ps→∀v y,read C S (ev C S e q.2)=some v→C.dec e v=some y→(a.eval q.2).cells.size=C.sz e∧∀(k:Nat) (v0:C.PV),(leaves (C.enc e y))[k]? =some v0→∃u,(a.eval q.2).cells[k]? =some u∧Q q.1 k v0 u)→
  (∀j z,xs[j]? =some z→∀(k:Nat) (v0:C.PV),(leaves (C.enc e z))[k]? =some v0→∃u,cells[j*C.sz e+k]? =some u∧Q j k v0 u)→
  ∃cells',Instr.fill (fun i=>some (i*C.sz e,C.sz e)) cells (ps.map fun q=>(q.1,a.eval q.2))=some cells'∧xs'.length=m∧cells'.size=m*C.sz e∧
   ∀j z,xs'[j]? =some z→∀(k:Nat) (v0:C.PV),(leaves (C.enc e z))[k]? =some v0→∃u,cells'[j*C.sz e+k]? =some u∧Q j k v0 u
 | [],xs,xs',cells,hf,hl,hc,hp,hq=>by cases hf;exact⟨cells,rfl,hl,hc,hq⟩
 | (i,x)::ps,xs,xs',cells,hf,hl,hc,hp,hq=>by
   unfold mJ at hf;split at hf
   ·rename_i v hr;split at hf
    ·rename_i y hy;split at hf
     ·rename_i hi;obtain⟨hsz,hleaf⟩:=hp (i,x) (by simp) v y hr hy
      let cells1:=(a.eval x).cells.zipIdx.foldl (fun cs (c,j)=>cs.setIfInBounds (i*C.sz e+j) c) cells
      have hc1:cells1=((a.eval x).cells.toList.zipIdx 0).foldl (fun cs x=>cs.setIfInBounds (i*C.sz e+x.2) x.1) cells:=by
       simp only[cells1];rw[←Array.foldl_toList];simp
      obtain⟨s1,s2⟩:=foldl_set (i*C.sz e) (a.eval x).cells.toList 0 cells;rw[←hc1]at s1 s2
      have hroom:i*C.sz e+C.sz e≤cells.size:=by
       rw[hc,←hl];have:=Nat.mul_le_mul_right (C.sz e) (show i+1≤xs.length from hi);rw[Nat.add_mul,Nat.one_mul]at this;exact this
      have hlen:(a.eval x).cells.toList.length=C.sz e:=by simp only[Array.length_toList];exact hsz
      have hq1:∀j z,(xs.set i y)[j]? =some z→∀(k:Nat) (v0:C.PV),(leaves (C.enc e z))[k]? =some v0→∃u,cells1[j*C.sz e+k]? =some u∧Q j k v0 u:=fun j z hz k v0 hv0=>by
       have hk:k<C.sz e:=by rw[←G.gk e z];exact(List.getElem?_eq_some_iff.1 hv0).1
       have hget:=s2 (j*C.sz e+k) (by rw[hlen];simpa using hroom);rw[hlen]at hget;simp only[Nat.add_zero]at hget;have hiff:=Ai (i:=i) (j:=j) (off:=0) (T:=C.sz e) (o:=k) (sz:=C.sz e) (by omega) hk;simp only[Nat.add_zero,Nat.zero_add,Nat.zero_le,true_and]at hiff;rw[hget];rw[List.getElem?_set]at hz
       by_cases e1:i=j
       ·subst e1;rw[if_pos rfl,if_pos hi]at hz;cases hz;rw[if_pos (by omega)];obtain⟨u,hu,hq⟩:=hleaf k v0 hv0;refine⟨u,?_,hq⟩;rw[show i*C.sz e+k-i*C.sz e=k by omega]
        simpa using hu
       ·rw[if_neg e1]at hz;rw[if_neg (fun hh=>e1 (hiff.1 hh).1.symm)];exact hq j z hz k v0 hv0
      obtain⟨cells',hfl,h1,h2,h3⟩:=nL G e hpos m ps _ xs' cells1 hf (by simpa using hl) (by rw[s1];exact hc) (fun q hq=>hp q (List.mem_cons_of_mem _ hq)) hq1;refine⟨cells',?_,h1,h2,h3⟩;simp only[List.map_cons,Instr.fill]
      have hcond:((a.eval x).cells.size≠C.sz e || decide (i*C.sz e+(a.eval x).cells.size>cells.size))=false:=by
       simp[hsz];omega
      simp only[hcond,Bool.false_eq_true,if_false];exact hfl
     ·cases hf
    ·cases hf
   ·cases hf
theorem BE {e:TypeId} {m:Nat} {ps:List (Nat×Operand)} {x:Operand} (h:Ad C e S m ps=some x):ps=[(0,x)]∧owned C S (ev C S e x)=true∧(aZ C (bG x) (ev C S e x)).Nodup:=by
 unfold Ad at h;split at h
 ·split at h
  ·rename_i hc;cases h;exact⟨rfl,hc.2.1,hc.2.2⟩
  ·cases h
 ·cases h
theorem sY:∀(rs:List ao) {S:St C},rs.Nodup→(∀q,q∈rs→isRow (look S q)=true)→get S d= .undef→get (gr C S rs) d= .undef
 | [],S,_,_,h=>h
 | r::rs,S,hn,hr,h=>by
   have hr0:=hr r (by simp);refine sY rs (List.nodup_cons.1 hn).2 (fun q hq=> ?_) (uW h hr0);rw[kb hr0 (hr q (List.mem_cons_of_mem _ hq)) (fun e=>(List.nodup_cons.1 hn).1 (by rw[←e];exact hq))];exact hr q (List.mem_cons_of_mem _ hq)
theorem rU (h:je P C B n S d V a w N bs) {o:Oper} {t:TypeId} {m:Nat} {ps:Array (Nat×Operand)} (ho:o.op= .buildSlice t m ps) (hps:∀q,q∈ps.toList→aT n q.2=true) {p:Option Prop} {S':St C}
 (he:nh C S d t m ps.toList=some (p,S')):Out P C B S' d V a o w:=by
 have G:=h.gD;unfold nh at he;split at he
 ·rename_i e hT;have hu:P.underlying t=some (.slice e):=by cases G.ty t _ hT;assumption
  obtain⟨i,z,hi,hz,hsz,hby,hzs,hpos,hbpos,hall⟩:=G.elem _ _ hT;have fresh:∀b,w.heap.size≤b→¬N b:=fun b hb hn=>by have:=((h.rel undef).kd b hn).1;omega
  split at he
  ·rename_i hm;subst hm;split at he
   ·rename_i hnil;have hps0:ps.toList=[]:=List.eq_nil_of_length_eq_zero hnil;have hps':ps= #[]:=by rw[←Array.toArray_toList (xs:=ps),hps0]
    cases he
    have hrun:(execOp a.eval o).run P w= .ok (.value (.slice (some ⟨w.heap.size,0,none⟩) 0 0)) (w.alloc (.cells #[] e)):=by
     simp[execOp,ho,Instr.buildSlice,run_underlying hu,sizeOf,typeInfo,hi,hps',Instr.fill,newRow];congr 2;exact Array.eq_empty_of_size_eq_zero (by simp)
    obtain⟨bs',hR⟩:=(h.rel (.slice (some ⟨w.heap.size,0,none⟩) 0 0)).jB (w':=w.alloc (.cells #[] e)) d h.vU (fun _=>False) (fun _ hq=>hq.elim) (fun b hb _=>heap_alloc_old w _ b hb) (by simp) ((h.rel undef).kept.alloc _)
     (N':=N) (Bd:=fun b=>b=w.heap.size) (fun _ h=>h) (fun _ h=> .inl h) (fun b hb=> .inr (by subst hb;simp)) (fun b hb hn=>fresh b (by omega) hn)
     (dp:=true) (e:=e) (xs:=[]) (by
      rw[fp];exact .inr ⟨w.heap.size,0, #[],fun _=>none,rfl,rfl,rfl,iX w _,Nat.le_refl _,Nat.zero_le _,by simp,fun j x hx=>by simp at hx⟩)
    exact⟨_,_,N,bs',hrun,hR⟩
   ·cases he
  ·rename_i hm;split at he
   ·rename_i hsmall;have hsz':(leaves (C.enc e (C.U.d e))).length=C.sz e:=rfl;rw[hsz']at hsmall;split at he
    ·rename_i xs hfe
     have cells:∀{Q:Nat→Nat→C.PV→Value→Prop},(∀q,q∈ps.toList→∀v y,read C S (ev C S e q.2)=some v→C.dec e v=some y→(a.eval q.2).cells.size=C.sz e∧∀(k:Nat) (v0:C.PV),(leaves (C.enc e y))[k]? =some v0→∃u,(a.eval q.2).cells[k]? =some u∧Q q.1 k v0 u)→
      (∀j k (v0:C.PV) u,(leaves (C.enc e (C.U.d e)))[k]? =some v0→ic C v0 u→Q j k v0 u)→
      ∃cells',(execOp a.eval o).run P w= .ok (.value (.slice (some ⟨w.heap.size,0,none⟩) m m)) (w.alloc (.cells cells' e))∧xs.length=m∧cells'.size=m*C.sz e∧
       ∀j z,xs[j]? =some z→∀(k:Nat) (v0:C.PV),(leaves (C.enc e z))[k]? =some v0→∃u,cells'[j*C.sz e+k]? =some u∧Q j k v0 u:= @fun Q hp hz0=>by
      obtain⟨cells',hfl,h1,h2,h3⟩:=nL (a:=a) G e hpos (Q:=Q) m ps.toList _ xs (madeCells z.cells (m*C.sz e)) hfe (by simp) (size_madeCells _ _) hp (fun j x hx k v0 hv0=>by
       obtain⟨hj,hxe⟩:=List.getElem?_eq_some_iff.1 hx;rw[List.length_replicate]at hj;rw[List.getElem_replicate]at hxe;subst hxe;obtain⟨u,hu',hzo⟩:=hall k v0 hv0;have hk':k<C.sz e:=by rw[←hzs];exact(Array.getElem?_eq_some_iff.1 hu').1
       exact⟨u,pv _ _ _ _ _ hzs hk' (pV hj hk') u hu',hz0 j k v0 u hv0 hzo⟩)
      refine⟨cells',?_,h1,h2,h3⟩
      have:=run_buildSlice (P:=P) w t e m (ps.map fun(i,x)=>(i,a.eval x)) cells' i z hu hi hz (by rw[hsz];omega) (by rw[hsz];exact Nat.mul_ne_zero hm (by omega)) (by
       rw[hsz,Array.toList_map];exact hfl)
      simp only[execOp,ho,Sem.run_bind,this,Result.andThen_ok,Sem.run_pure]
     have hml:m≤maxLen:=by
      have:m*1≤m*C.sz e:=Nat.mul_le_mul_left _ hpos;simp only[maxLen];omega
     have hread:∀q,q∈ps.toList→∀v y,read C S (ev C S e q.2)=some v→C.dec e v=some y→uu C w (behind S N bs (aZ C (bG q.2) (ev C S e q.2))) (leaves (C.enc e y)) (a.eval q.2).cells:=fun q hq v y hr hy=>by
      rw[G.dec _ _ _ hy];exact AQ h.Dr h.Ew (hps q hq) hr
     split at he
     ·rename_i hdeep;split at he
      ·rename_i x hg;cases he;obtain⟨hpsx,hown,hnd⟩:=BE hg;have hx:aT n x=true:=hps (0,x) (by rw[hpsx];simp)
       obtain⟨v1,y1,hr1,hy1⟩:∃v y,read C S (ev C S e x)=some v∧C.dec e v=some y:=by
        rw[hpsx]at hfe;unfold mJ at hfe;split at hfe
        ·rename_i v hr;split at hfe
         ·rename_i y hy;exact⟨v,y,hr,hy⟩
         ·cases hfe
        ·cases hfe
       obtain⟨rootAt,hra,hinj,hgift⟩:=xd G h.Dr h.Ew hx hr1 hown hnd;have hdisj:=h.Dr.km
       classical
       let lab:Nat→Option (Nat×Nat):=fun b=>if hh:∃k q,rootAt k=some q∧bs q b then some (0,Classical.choose hh)else none
       have hlab:∀b k q,rootAt k=some q→bs q b→lab b=some (0,k):=fun b k q hq hb=>by
        have hex:∃k q,rootAt k=some q∧bs q b:=⟨k,q,hq,hb⟩;simp only[lab,dif_pos hex];obtain⟨q',hq',hb'⟩:=Classical.choose_spec hex;rw[hinj _ _ q' hq' (by rw[hq,hdisj q q' b hb hb'])]
       obtain⟨cells',hrun,hlen,hcs,hleaf⟩:=cells (Q:=fun j k v0 u=>nI C w N (fun b=>(∃q,q∈aZ C (bG x) (ev C S e x)∧bs q b)∧lab b=some (j,k)) true v0 u)
        (fun q hq v y hr hy=>by
         have hag:=hread q hq v y hr hy;refine⟨by rw[hag.1];exact G.gk e y,fun k v0 hv0=> ?_⟩;rw[hpsx,List.mem_singleton]at hq;subst hq;rw[hr]at hr1;cases hr1;rw[G.dec _ _ _ hy]at hv0;obtain⟨u,hu',hin⟩:=hgift k v0 hv0;exact⟨u,hu',hin.move (fun _ _=>rfl) (fun _ h=>h) (fun b ⟨q,hq,hb⟩=>⟨⟨q,hra k q hq,hb⟩,hlab b k q hq hb⟩)⟩)
        (fun j k v0 u hv0 hzo=>hzo.Dc (G.kE e _ v0 (List.mem_of_getElem? hv0)) true)
       obtain⟨hR1,hk1,hk2,hk3⟩:=Rel.gr (aZ C (bG x) (ev C S e x)) (h.rel (.slice (some ⟨w.heap.size,0,none⟩) m m)) hnd (vn hown);have hlt:∀q b,bs q b→b<w.heap.size:=fun q b hb=>((h.rel undef).own q b hb).2.1
       obtain⟨bs',hR⟩:=hR1.jB (w':=w.alloc (.cells cells' e)) d (sY _ hnd (vn hown) h.vU) (fun q=>q∈aZ C (bG x) (ev C S e x)) (fun q hq=>(hk1 q hq).1) (fun b hb _=>heap_alloc_old w _ b hb) (by simp) ((h.rel undef).kept.alloc _)
        (N':=N) (Bd:=fun b=>(∃q,q∈aZ C (bG x) (ev C S e x)∧bs q b)∨b=w.heap.size) (fun _ h=>h) (fun _ h=> .inl h) (fun b hb=>hb.imp id (fun hb=>by subst hb;simp)) (fun b hb hn=>hb.elim (fun⟨q,_,hb⟩=>((h.rel undef).own q b hb).1 hn) (fun hb=>fresh b (by omega) hn))
        (dp:=true) (e:=e) (xs:=xs) (by
         rw[fp];refine .inr ⟨w.heap.size,m,cells',lab,by rw[hlen],.inr rfl,?_,iX w _,by rw[hlen];exact Nat.le_refl _,hml,hcs,fun j z hz k v0 hv0=> ?_⟩
         ·have hno:¬∃k q,rootAt k=some q∧bs q w.heap.size:=fun⟨k,q,_,hb⟩=>by have:=hlt q _ hb;omega
          simp only[lab,dif_neg hno]
         ·obtain⟨u,hu',hq⟩:=hleaf j z hz k v0 hv0;exact⟨u,hu',hq.move (fun b hb=>heap_alloc_old w _ b (hb.elim (fun hn=>((h.rel undef).kd b hn).1) (fun hb=>let⟨q,_,hb⟩:=hb.1;hlt q b hb))) (fun _ h=>h) (fun b hb=>⟨.inl hb.1,hb.2⟩)⟩)
       exact⟨_,_,N,bs',hrun,hR⟩
      ·cases he
       obtain⟨cells',hrun,hlen,hcs,hleaf⟩:=cells (Q:=fun _ _ v0 u=>gC C w (behind S N bs (r8 C e S ps.toList)) v0 u)
        (fun q hq v y hr hy=>by
         have hag:=hread q hq v y hr hy;refine⟨by rw[hag.1];exact G.gk e y,fun k v0 hv0=> ?_⟩;obtain⟨u,hu',him⟩:=hag.2 k v0 hv0;exact⟨u,hu',him.mono (fun _ _=>rfl) (fun b hb=>hb.imp id (fun⟨r,hr,hb⟩=>⟨r,List.mem_flatMap.2 ⟨q,hq,hr⟩,hb⟩))⟩)
        (fun j k v0 u hv0 hzo=>hzo.Dc (B:=fun _=>False) (G.kE e _ v0 (List.mem_of_getElem? hv0)) false)
       obtain⟨N1,bs1,hR1,hN1,hice,hsub,hrest,hn1⟩:=(h.rel (.slice (some ⟨w.heap.size,0,none⟩) m m)).ij (r8 C e S ps.toList);have hsame:∀b,N1 b→(w.alloc (.cells cells' e)).heap[b]? =w.heap[b]? :=fun b hb=>heap_alloc_old w _ b (hR1.kd b hb).1
       obtain⟨bs',hR⟩:=hR1.jB (w':=w.alloc (.cells cells' e)) d (ni _ h.vU) (fun _=>False) (fun _ hq=>hq.elim) (fun b hb _=>heap_alloc_old w _ b hb) (by simp) ((h.rel undef).kept.alloc _)
        (N':=N1) (Bd:=fun b=>b=w.heap.size) (fun _ h=>h) (fun _ h=> .inl h) (fun b hb=> .inr (by subst hb;simp)) (fun b hb hn=>by subst hb;have:=(hR1.kd _ hn).1;omega)
        (dp:=false) (e:=e) (xs:=xs) (by
         rw[fp];refine .inr ⟨w.heap.size,m,cells',fun _=>none,by rw[hlen],rfl,rfl,iX w _,by rw[hlen];exact Nat.le_refl _,hml,hcs,fun j z hz k v0 hv0=> ?_⟩;obtain⟨u,hu',hq⟩:=hleaf j z hz k v0 hv0;exact⟨u,hu',gC.mono (gC.mono hq (fun _ _=>rfl) (fun b hb=>hb.elim (hN1 b) (fun⟨r,hr,hl,hb⟩=>hice r hr hl b hb))) hsame (fun _ h=>h)⟩)
       exact⟨_,_,N1,bs',hrun,hR⟩
     ·rename_i hdeep;have hdeep:gp C e=false:=by simpa using hdeep
      cases he
      obtain⟨cells',hrun,hlen,hcs,hleaf⟩:=cells (Q:=fun _ _ v0 u=>(∀(f:TypeId) (zs:List (C.U.T f)),v0≠PV.sl f zs)→∀(N0 B0:Nat→Prop) (w0:World),nI C w0 N0 B0 true v0 u)
       (fun q hq v y hr hy=>by
        have hag:=hread q hq v y hr hy;refine⟨by rw[hag.1];exact G.gk e y,fun k v0 hv0=> ?_⟩;obtain⟨u,hu',him⟩:=hag.2 k v0 hv0;exact⟨u,hu',fun hn N0 B0 w0=>nI.scalar (dp:=false) (Bo:=fun _=>False) him hn⟩)
       (fun j k v0 u hv0 hzo hn N0 B0 w0=>hzo.Dc (G.kE e _ v0 (List.mem_of_getElem? hv0)) true)
      obtain⟨bs',hR⟩:=(h.rel (.slice (some ⟨w.heap.size,0,none⟩) m m)).jB (w':=w.alloc (.cells cells' e)) d h.vU (fun _=>False) (fun _ hq=>hq.elim) (fun b hb _=>heap_alloc_old w _ b hb) (by simp) ((h.rel undef).kept.alloc _)
       (N':=N) (Bd:=fun b=>b=w.heap.size) (fun _ h=>h) (fun _ h=> .inl h) (fun b hb=> .inr (by subst hb;simp)) (fun b hb hn=>fresh b (by omega) hn)
       (dp:=true) (e:=e) (xs:=xs) (by
        rw[fp];refine .inr ⟨w.heap.size,m,cells',fun _=>none,by rw[hlen],rfl,rfl,iX w _,by rw[hlen];exact Nat.le_refl _,hml,hcs,fun j z hz k v0 hv0=> ?_⟩;obtain⟨u,hu',hq⟩:=hleaf j z hz k v0 hv0;exact⟨u,hu',hq (G.jg e hdeep z v0 (List.mem_of_getElem? hv0)) _ _ _⟩)
      exact⟨_,_,N,bs',hrun,hR⟩
    ·cases he
   ·cases he
 ·cases he
end
end Go.Proofs.YtmapddgocpkgeaaGreat.aa
namespace Go.Proofs.YtmapddgocpkgeaaGreat.aa
open Go.RowKit
set_option linter.unusedVariables false
set_option linter.unusedSimpArgs false
variable {P:Program} {C:Ctx}
def sC (n:Nat) (o:Oper):Bool:=o.op.operands.toList.all (aT n)
section
variable {B:fK} {n:Nat} {S:St C} {d:Nat} {V:Nat→Value} {a:Act} {w:World} {N:Nat→Prop} {bs:ao→Nat→Prop}
theorem wC (h:je P C B n S d V a w N bs) {o:Oper} {c:Call} {b:Builtin} (ho:o.op= .call c) (hcl:c.callee= .builtin b) (hx:∀x,x∈c.args.toList→aT n x=true) {p:Option Prop} {S':St C}
 (he:so C S d c.argTypes.toList o.type b c.args.toList=some (p,S')) (hp:p.getD True):Out P C B S' d V a o w:=by
 unfold so at he;split at he
 ·rename_i x hxs;split at he
  ·rename_i t1 ts hts;exact Bi h ho hcl hxs hts (hx x (by rw[hxs];simp)) he
  ·cases he
 ·rename_i s x hxs;split at he
  ·rename_i t1 t2 hts;have hs:=hx s (by rw[hxs];simp);have hx':=hx x (by rw[hxs];simp);unfold yD at he;split at he
   ·rename_i dp r e xs hrow;split at he
    ·cases he
    rename_i hty;have hty:iK C t1 e=true:=by simpa using hty
    split at he
    ·rename_i k m hev;split at he
     ·cases he
     rename_i hti;cases he;simp only[Option.getD_some]at hp;exact tI h ho hcl hxs hts hs hx' hrow hty (by simpa using hti) hev hp.1 hp.2
    ·exact xP h ho hcl hxs hts hs hx' hrow hty he hp
   ·cases he
  ·cases he
 ·rename_i s x hxs;split at he
  ·rename_i t1 t2 hts;exact z1 h ho hcl hxs hts (hx s (by rw[hxs];simp)) (hx x (by rw[hxs];simp)) he hp
  ·cases he
 ·rename_i x y hxs;split at he
  ·rename_i k m k' m' h1 h2;cases he;exact Bv h ho hcl hxs (hx x (by rw[hxs];simp)) (hx y (by rw[hxs];simp)) h1 h2
  ·cases he
 ·rename_i x y hxs;split at he
  ·rename_i k m k' m' h1 h2;cases he;exact Bj h ho hcl hxs (hx x (by rw[hxs];simp)) (hx y (by rw[hxs];simp)) h1 h2
  ·cases he
 ·cases he
theorem uJ (h:je P C B n S d V a w N bs) {o:Oper} (hok:sC n o=true) {p:Option Prop} {S':St C} (he:nS C S d o=some (p,S')) (hp:p.getD True):Out P C B S' d V a o w:=by
 have hall:∀x,x∈o.op.operands.toList→aT n x=true:=List.all_eq_true.1 hok;have he0:=he;unfold nS at he;split at he
 ·rename_i x ho;exact Au h ho (hall x (by rw[ho];simp[Op.operands])) he
 ·rename_i x ho;exact xN h ho (hall x (by rw[ho];simp[Op.operands])) he
 ·rename_i x ho;exact vH h ho (hall x (by rw[ho];simp[Op.operands])) he0
 ·rename_i op t x y u ho;split at he
  ·rename_i p' v hv;cases he;exact yH h ho (hall x (by rw[ho];simp[Op.operands])) (hall y (by rw[ho];simp[Op.operands])) hv hp
  ·cases he
 ·rename_i op t x ho;exact zN h ho (hall x (by rw[ho];simp[Op.operands])) he0
 ·rename_i src t x ho;exact wm h ho (hall x (by rw[ho];simp[Op.operands])) he hp
 ·rename_i t x i ho;exact th h ho (hall x (by rw[ho];simp[Op.operands])) (hall i (by rw[ho];simp[Op.operands])) he hp
 ·rename_i t x f ho;exact tj h ho (hall x (by rw[ho];simp[Op.operands])) he
 ·rename_i t x ho;exact Ab h ho (hall x (by rw[ho];simp[Op.operands])) he
 ·rename_i t x f ho;exact yz h ho (hall x (by rw[ho];simp[Op.operands])) he
 ·rename_i x i ho;exact wu h ho (hall x (by rw[ho];simp[Op.operands])) he
 ·rename_i t ho;split at he
  ·rename_i T hT;cases he;exact zH h ho hT
  ·cases he
 ·rename_i t x ho;exact Bn h ho (hall x (by rw[ho];simp[Op.operands])) he
 ·rename_i t ps ho;exact yo h ho (fun q hq=>hall q.2 (by rw[ho];simp only[Op.operands];exact List.mem_map_of_mem hq)) he
 ·rename_i t m ps ho;exact rU h ho (fun q hq=>hall q.2 (by rw[ho];simp only[Op.operands];exact List.mem_map_of_mem hq)) he
 ·rename_i t l c ho;exact tD h ho (hall l (by rw[ho];simp[Op.operands])) (hall c (by rw[ho];simp[Op.operands])) he hp
 ·rename_i t x lo hi ho;exact zG h ho (hall x (by rw[ho];simp[Op.operands])) (fun y hy=>hall y (by rw[ho,hy];simp[Op.operands])) (fun y hy=>hall y (by rw[ho,hy];simp[Op.operands])) he hp
 ·rename_i t x i ho;exact yy h ho (hall x (by rw[ho];simp[Op.operands])) (hall i (by rw[ho];simp[Op.operands])) he hp
 ·rename_i f first caps ho
  split at he
  ·rename_i hfirst;have hf:first= #[]:=Array.eq_empty_of_size_eq_zero hfirst
   rw[hf]at ho;split at he
   ·rename_i l hl;cases he;exact uI h ho (fun x hx=>hall x (by rw[ho];simp only[Op.operands];simpa using hx)) hl
   ·cases he
  ·cases he
 ·rename_i c ho;split at he
  ·rename_i b hcl;exact wC h ho hcl (fun x hx=>hall x (by rw[ho];simp only[Op.operands,Call.operands];simp;right;simpa using hx)) he hp
  ·cases he
 ·cases he
end
end Go.Proofs.YtmapddgocpkgeaaGreat.aa
namespace Go.Proofs.YtmapddgocpkgeaaGreat.aa
open Go.RowKit
set_option linter.unusedVariables false
set_option linter.unusedSimpArgs false
variable {P:Program} {C:Ctx}
def gE (w w':World):Prop:=∀b,b<w.heap.size→w'.heap[b]? =w.heap[b]?
theorem gE.refl (w:World):gE w w:=fun _ _=>rfl
theorem gE.cell {w w':World} (h:gE w w') {a:Addr} {v:Value} (hc:w.cell? a=some v):w'.cell? a=some v:=by
 rw[cell_of_heap (w:=w) (h a.block (World.block_lt_of_cell? w a hc))];exact hc
theorem gE.trans {w w1 w2:World} (h:gE w w1) (h':gE w1 w2):gE w w2:=fun b hb=>by
 have:=h b hb
 have hlt:b<w1.heap.size:=by
  rcases Nat.lt_or_ge b w1.heap.size with h1 | h1
  ·exact h1
  ·rw[Array.getElem?_eq_none h1,Array.getElem?_eq_getElem hb]at this;cases this
 rw[h' b hlt,this]
def Quiet (P:Program) (R:World→World→Prop) (w:World) {α:Type} (m:Sem α):Prop:=∀x w',m.run P w= .ok x w'→w'=w∧∀w1,R w w1→m.run P w1= .ok x w1
section
variable {R:World→World→Prop} {w:World} {α β:Type}
theorem Quiet.pure (a:α):Quiet P R w (Pure.pure a:Sem α):=fun x w' h=>by
 simp only[Sem.run_pure,Result.ok.injEq]at h;obtain⟨rfl,rfl⟩:=h;exact⟨rfl,fun w1 _=>by simp⟩
theorem Quiet.never {m:Sem α} (h:∀x w',m.run P w≠ .ok x w'):Quiet P R w m:=fun x w' hr=>absurd hr (h x w')
theorem Quiet.halt (e:Halt):Quiet P R w (Sem.halt e:Sem α):= .never (fun x w' h=>by simp[Sem.run]at h)
theorem Quiet.bind {m:Sem α} {f:α→Sem β} (h:Quiet P R w m) (hf:∀a,m.run P w= .ok a w→Quiet P R w (f a)):Quiet P R w (m>>=f):=fun x w' hr=>by
 rw[Sem.run_bind]at hr;cases hm:m.run P w with
 | halt e w2=>rw[hm]at hr;simp at hr
 | ok a w2=>
   obtain⟨rfl,h2⟩:=h a w2 hm;rw[hm,Result.andThen_ok]at hr;obtain⟨h3,h4⟩:=hf a hm x w' hr;exact⟨h3,fun w1 h1=>by rw[Sem.run_bind,h2 w1 h1,Result.andThen_ok];exact h4 w1 h1⟩
theorem Quiet.program {f:Program→Sem β} (h:Quiet P R w (f P)):Quiet P R w (Go.program>>=f):=Quiet.bind (fun x w' hr=>by
 rw[run_program]at hr;simp only[Result.ok.injEq]at hr;obtain⟨rfl,rfl⟩:=hr;exact⟨rfl,fun w1 _=>run_program P w1⟩) (fun a ha=>by
 rw[run_program]at ha;simp only[Result.ok.injEq]at ha;rw[←ha.1];exact h)
theorem fR (t:TypeId):Quiet P R w (underlying t):=by
 unfold underlying;refine Quiet.program ?_;split
 ·exact .pure _
 ·exact .halt _
theorem uy (t:TypeId):Quiet P R w (typeInfo t):=by
 unfold typeInfo;refine Quiet.program ?_;split
 ·exact .pure _
 ·exact .halt _
theorem jr (t:TypeId):Quiet P R w (sizeOf t):=by
 unfold sizeOf;exact(uy t).bind (fun _ _=> .pure _)
theorem oJ (t:TypeId):Quiet P R w (isAgg t):=by
 unfold isAgg;refine(fR t).bind (fun d _=> ?_);split<;>exact .pure _
theorem uP (hR:∀w1,R w w1→gE w w1) {a:Addr} {v:Value} (h:w.cell? a=some v):Quiet P R w (load a):=fun x w' hr=>by
 have e:∀w,w.cell? a=some v→(load a).run P w= .ok v w:=fun w h=>by simp[load,Sem.run,h]
 rw[e w h]at hr;simp only[Result.ok.injEq]at hr;obtain⟨rfl,rfl⟩:=hr;exact⟨rfl,fun w1 h1=>e w1 ((hR w1 h1).cell h)⟩
theorem kV (hR:∀w1,R w w1→gE w w1) (a:Addr):∀(n i:Nat) (acc:Array Value),(∀j,i≤j→j<i+n→∃v,w.cell? (a.add j)=some v)→Quiet P R w (loadCellsFrom a i n acc)
 | 0,i,acc,_=> .pure _
 | n+1,i,acc,h=>by
   unfold loadCellsFrom;obtain⟨v,hv⟩:=h i (Nat.le_refl _) (by omega);exact(uP hR hv).bind (fun x _=>kV hR a n (i+1) _ (fun j h1 h2=>h j (by omega) (by omega)))
theorem lD (v:Value):Quiet P R w (Instr.sureAddr v):=by
 unfold Instr.sureAddr;split
 ·exact .pure _
 ·exact .halt _
theorem gV {m:Sem Value} (h:Quiet P R w m):Quiet P R w (do pure (Next.value (←m))):=h.bind (fun _ _=> .pure _)
theorem sB {γ:Type} (m:String):Quiet P R w (runtimePanic (.error m):Sem γ):=by
 unfold runtimePanic;exact Quiet.program (.halt _)
theorem jc {γ:Type} (k:IntKind) (x y:Int) (code:BoundsCode):Quiet P R w (boundsPanic k x y code:Sem γ):= .never (fun v w' h=>by
 have e:∀(x y:Int) (s:Bool) (c:BoundsCode) (w:World) (v:γ) (w':World),(runtimePanic (.bounds x y s c):Sem γ).run P w≠ .ok v w':=fun x y s c w v w' h=>by
  unfold runtimePanic at h;rw[Sem.run_bind,run_program,Result.andThen_ok]at h;simp[goPanic,Sem.run]at h
 have both:∀(m:Sem Bool),(m>>=fun signed=>(runtimePanic (.bounds (IntKind.i64.wrap x) y signed code):Sem γ)).run P w≠ .ok v w':=fun m h=>by
  rw[Sem.run_bind]at h;cases hr:m.run P w with
  | halt e w2=>rw[hr]at h;simp at h
  | ok b w2=>rw[hr,Result.andThen_ok]at h;exact e _ _ _ _ _ _ _ h
 unfold boundsPanic at h;dsimp only at h;split at h
 ·exact both _ h
 ·exact both _ h)
theorem px (v:Value):Quiet P R w (asIntOf v):=by
 unfold asIntOf;split
 ·exact .pure _
 ·exact .halt _
 ·exact .halt _
theorem zc (v:Value):Quiet P R w (asAgg v):=by
 unfold asAgg;split
 ·exact .pure _
 ·exact .halt _
theorem vc (t:TypeId) (cs:Array Value) (off:Nat):Quiet P R w (Go.part t cs off):=by
 unfold Go.part;refine(oJ t).bind (fun b _=> ?_);split
 ·exact(jr t).bind (fun _ _=> .pure _)
 ·split
  ·exact .pure _
  ·exact .halt _
theorem wB (hR:∀w1,R w w1→gE w w1) {t:TypeId} {a:Addr} {n:Nat} (hn:(sizeOf t).run P w= .ok n w) (h0:0<n) (h:∀j,j<n→∃v,w.cell? (a.add j)=some v):Quiet P R w (loadVar t a):=by
 unfold loadVar;refine(oJ t).bind (fun b _=> ?_);split
 ·refine(jr t).bind (fun m hm=> ?_);rw[hn]at hm;simp only[Result.ok.injEq,and_true]at hm;subst hm;exact Quiet.bind (kV hR a n 0 #[] (fun j _ hj=>h j (by omega))) (fun _ _=> .pure _)
 ·obtain⟨v,hv⟩:=h 0 h0
  exact uP hR (v:=v) (by
   have:a.add 0=a:=by simp[Addr.add]
   rw[←this];exact hv)
theorem u5 {t:TypeId} {a:Addr} (hn:(sizeOf t).run P w= .ok 0 w) (hg:(isAgg t).run P w= .ok true w):Quiet P R w (loadVar t a):=by
 unfold loadVar;refine(oJ t).bind (fun b hb=> ?_);rw[hg]at hb;simp only[Result.ok.injEq,and_true]at hb;subst hb;rw[if_pos rfl];refine(jr t).bind (fun m hm=> ?_);rw[hn]at hm;simp only[Result.ok.injEq,and_true]at hm;subst hm;exact Quiet.bind (.pure _) (fun _ _=> .pure _)
section ops
variable {ρ:Operand→Value} {o:Oper}
theorem quiet_move {x:Operand} (ho:o.op= .move x∨o.op= .assign x):Quiet P R w (execOp ρ o):=by
 rcases ho with ho | ho<;>(unfold execOp;rw[ho];exact .pure _)
theorem pQ {c x y:Operand} (ho:o.op= .pick c x y):Quiet P R w (execOp ρ o):=by
 unfold execOp;rw[ho];refine Quiet.bind ?_ (fun _ _=> .pure _);unfold asBool;split
 ·exact .pure _
 ·exact .halt _
theorem lL {x:Operand} (ho:o.op= .nilCheck x) {a:Addr} (hx:ρ x= .pointer (some a)):Quiet P R w (execOp ρ o):=by
 unfold execOp;rw[ho];simp only[hx];exact .pure _
theorem tt {t:TypeId} {x:Operand} {f:Nat} (ho:o.op= .fieldAddr t x f) (hz:∀fields fd,P.underlying t=some (.struct fields)→fields[f]? =some fd→∃n,(sizeOf fd.type).run P w= .ok (n+1) w):Quiet P R w (execOp ρ o):=by
 unfold execOp;rw[ho];refine gV ?_;unfold Instr.fieldAt;refine(fR t).bind (fun d hd=> ?_);split
 ·rename_i fields
  have hu:P.underlying t=some (.struct fields):=by
   unfold underlying at hd;rw[Sem.run_bind,run_program,Result.andThen_ok]at hd;split at hd
   ·rename_i d' h';simp only[Sem.run_pure,Result.ok.injEq,and_true]at hd;rw[h',hd]
   ·simp[stuck,Sem.run]at hd
  split
  ·rename_i fd hfd;obtain⟨n,hn⟩:=hz fields fd hu hfd;refine(lD _).bind (fun a _=> ?_);refine Quiet.bind ?_ (fun _ _=> .pure _);unfold fieldPlace;refine(jr _).bind (fun m hm=> ?_);rw[hn]at hm;simp only[Result.ok.injEq,and_true]at hm;subst hm;rw[if_neg (by omega)];exact .pure _
  ·exact .halt _
 ·exact .halt _
theorem zp {t:TypeId} {x:Operand} {f:Nat} (ho:o.op= .field t x f):Quiet P R w (execOp ρ o):=by
 unfold execOp;rw[ho];refine gV ?_;unfold Instr.field;refine(fR t).bind (fun d hd=> ?_);split
 ·split
  ·exact(zc _).bind (fun _ _=>vc _ _ _)
  ·exact .halt _
 ·exact .halt _
theorem wI {x:Operand} {i:Nat} (ho:o.op= .extract x i):Quiet P R w (execOp ρ o):=by
 unfold execOp;rw[ho];refine gV ?_;unfold Instr.extract;split
 ·split
  ·exact .pure _
  ·exact .halt _
 ·exact .halt _
theorem zA {t:TypeId} {x i:Operand} (ho:o.op= .index t x i):Quiet P R w (execOp ρ o):=by
 unfold execOp;rw[ho];refine gV ?_;unfold Instr.index;refine(px _).bind (fun ki _=> ?_);refine(fR t).bind (fun d _=> ?_);split
 ·split
  ·exact(jr _).bind (fun _ _=>vc _ _ _)
  ·exact jc _ _ _ _
 ·split
  ·exact .pure _
  ·exact jc _ _ _ _
 ·exact .halt _
theorem nM {t:TypeId} {x i:Operand} (ho:o.op= .indexAddr t x i):Quiet P R w (execOp ρ o):=by
 unfold execOp;rw[ho];refine gV ?_;unfold Instr.indexAt;refine(px _).bind (fun ki _=> ?_);refine(fR t).bind (fun d _=> ?_)
 extract_lets jp
 have hjp:∀r,Quiet P R w (jp r):=fun⟨base,len,elem⟩=>by
  refine(fR t).bind (fun d2 _=> ?_);dsimp only;split
  ·split
   ·exact(jr _).bind (fun _ _=> .pure _)
   ·generalize (decide (len≤1)&&_)=tiny;cases tiny
    ·exact jc _ _ _ _
    ·exact .halt _
  ·exact jc _ _ _ _
 split
 ·exact(lD _).bind (fun _ _=>Quiet.bind (.pure _) (fun _ _=>hjp _))
 ·exact Quiet.bind (.pure _) (fun _ _=>hjp _)
 ·exact Quiet.bind (.halt _) (fun _ _=>hjp _)
theorem wb (hR:∀w1,R w w1→gE w w1) {t:TypeId} {x:Operand} (ho:o.op= .load t x) {a:Addr} (hx:ρ x= .pointer (some a)) {n:Nat} (hn:(sizeOf t).run P w= .ok n w) (h0:n=0→(isAgg t).run P w= .ok true w) (h:∀j,j<n→∃v,w.cell? (a.add j)=some v):Quiet P R w (execOp ρ o):=by
 unfold execOp;rw[ho];refine gV ?_;unfold Instr.loadAt;refine(lD _).bind (fun a' ha'=> ?_);rw[hx]at ha';simp only[Instr.sureAddr,Sem.run_pure,Result.ok.injEq,and_true]at ha';subst ha'
 by_cases hz:0<n
 ·exact wB hR hn hz h
 ·have:n=0:=by omega
  subst this;exact u5 hn (h0 rfl)
theorem BG {c:Call} (ho:o.op= .call c) (hc:c.callee= .builtin .len) (hx:∀x,(c.args.map ρ)[0]? =some x→(∃A n k,x= .slice A n k)∨∃s,x= .string s):Quiet P R w (execOp ρ o):=by
 have e:execOp ρ o=(do pure (Next.value (←Builtin.len_ c.argTypes o.type (c.args.map ρ)))):=by
  simp[execOp,ho,resolve,hc,invoke,builtin]
 rw[e];refine gV ?_;unfold Builtin.len_;split
 ·rename_i t x heq;have h2:(c.args.map ρ)[0]? =some x:=(Prod.mk.inj heq).2;refine(fR t).bind (fun d _=> ?_);rcases hx x h2 with⟨A,n,k,rfl⟩ | ⟨s,rfl⟩
  ·cases d<;>first | exact .pure _ | exact .halt _ | skip
   refine(fR _).bind (fun d _=> ?_);split<;>first | exact .pure _ | exact .halt _
  ·cases d<;>first | exact .pure _ | exact .halt _ | skip
   refine(fR _).bind (fun d _=> ?_);split<;>first | exact .pure _ | exact .halt _
 ·exact .halt _
theorem tB {op:BinOp} {t u:TypeId} {x y:Operand} (ho:o.op= .binOp op t x y u) {k k':IntKind} {m n:Int} (hx:ρ x= .int k m) (hy:ρ y= .int k' n) (hop:op≠ .shl∧op≠ .shr):Quiet P R w (execOp ρ o):=by
 unfold execOp;rw[ho];refine gV ?_;rw[hx,hy];refine Quiet.bind ?_ (fun _ _=> ?_)
 ·unfold eqGuard;simp only;split<;>exact .pure _
 ·cases op<;>first
   | exact absurd rfl hop.1
   | exact absurd rfl hop.2
   | (simp only[binOp];split;exact .halt _;first | exact .pure _ | (unfold Op.intDiv;split;exact sB _;exact .pure _) | exact .halt _)
theorem tC {op:BinOp} {t u:TypeId} {x y:Operand} (ho:o.op= .binOp op t x y u) {m n:ByteArray} (hx:ρ x= .string m) (hy:ρ y= .string n):Quiet P R w (execOp ρ o):=by
 unfold execOp;rw[ho];refine gV ?_;rw[hx,hy];refine Quiet.bind ?_ (fun _ _=> ?_)
 ·unfold eqGuard;simp only;split<;>exact .pure _
 ·cases op<;>(simp only[binOp,Op.stringOp];first | exact .pure _ | exact .halt _ | (split<;>first | exact .halt _ | exact .pure _))
theorem uT {op:UnOp} {t:TypeId} {x:Operand} (ho:o.op= .unOp op t x) (hx:(∃b,ρ x= .bool b)∨∃k n,ρ x= .int k n):Quiet P R w (execOp ρ o):=by
 unfold execOp;rw[ho];refine gV ?_;rcases hx with⟨b,hx⟩ | ⟨k,n,hx⟩<;>rw[hx]<;>unfold Op.unary<;>cases op<;>first | exact .pure _ | exact .halt _
end ops
end
end Go.Proofs.YtmapddgocpkgeaaGreat.aa
namespace Go.Proofs.YtmapddgocpkgeaaGreat.aa
open Go.RowKit
set_option linter.unusedVariables false
set_option linter.unusedSimpArgs false
variable {P:Program} {C:Ctx}
def nC:Op→Bool
 | .load .. =>true
 | _=>false
def nJ (o:Oper) (w w':World):Prop:=nC o.op=true→gE w w'
section
variable {B:fK} {n:Nat} {S:St C} {V:Nat→Value} {a:Act} {w:World} {N:Nat→Prop} {bs:ao→Nat→Prop}
theorem zZ (G:Good P C) (h:Rel C B S V w N bs) (ha:lQ n V a) {t:TypeId} {x:Operand} (hx:aT n x=true) {d:Nat} {p:Option Prop} {S':St C} (he:vj C S d t x=some (p,S')):
 ∃A m,a.eval x= .pointer (some A)∧(sizeOf t).run P w= .ok m w∧(m=0→(isAgg t).run P w= .ok true w)∧∀j,j<m→∃v,w.cell? (A.add j)=some v:=by
 unfold vj at he;split at he
 ·rename_i T hT;have tyok:=G.ty t T hT
  have hz:T.size=0→(isAgg t).run P w= .ok true w:=fun h0=>by
   rw[tyok.isAgg w];cases T<;>first | rfl | simp[Ty.size]at h0
  have hsec:=js h ha hx t (fun _ _=>False);split at he
  ·rename_i v k hs;split at he
   ·rename_i hfit;have hfit:k+T.size≤(leaves v).length:=of_decide_eq_true hfit;rw[hs]at hsec;obtain⟨b,o',hb,hc,hl⟩:=hsec;refine⟨_,T.size,hc,tyok.sizeOf w,hz,fun j hj=> ?_⟩;obtain⟨u,h1,_⟩:=hl (k+j) _ (List.getElem?_eq_getElem (by omega));exact⟨u,by rw[Addr.add_lit,Nat.add_assoc];exact h1⟩
   ·cases he
  ·rename_i q k hs;split at he
   ·rename_i cs hq;split at he
    ·rename_i hfit;have hfit:k+T.size≤cs.length:=of_decide_eq_true hfit;rw[hs]at hsec;obtain⟨b,⟨_,hVq⟩,hc⟩:=hsec;obtain⟨b',vs,ty,hb',_,hheap,hagg⟩:=h.fo q _ (iz hq (by simp));rw[hVq]at hb';simp only[Value.pointer.injEq,Option.some.injEq,Addr.mk.injEq,and_true]at hb';subst hb';refine⟨_,T.size,hc,tyok.sizeOf w,hz,fun j hj=>⟨_,by rw[Addr.add_lit,cell_of_row w b _ vs ty (0,0) hheap];exact hagg.cell (by omega)⟩⟩
    ·cases he
   ·cases he
  ·rename_i r e i k hs;split at he
   ·rename_i dp e' xs hl;split at he
    ·rename_i hcond;obtain⟨rfl,hfit⟩:=hcond;have hfit:k+T.size≤(leaves (elemAt C e' xs i)).length:=of_decide_eq_true hfit;rw[hs]at hsec;obtain⟨b,nn,cap,hrow,⟨h0i,hlt⟩,hc⟩:=hsec;obtain⟨c',hc',hrep⟩:=eH.look h r (cc hrow.1);rw[hrow.2]at hc';cases hc';rw[hl]at hrep;obtain⟨cur,lab,hnn,_,_,hh,_,_,_,h4⟩:=fk.slot hrep;have hlt:i<(xs.length:Int):=by omega
     have hxi:=tK xs i h0i hlt (C.U.d e');refine⟨_,T.size,hc,tyok.sizeOf w,hz,fun j hj=> ?_⟩;obtain⟨u,h1,_⟩:=h4 _ _ hxi (k+j) _ (List.getElem?_eq_getElem (show k+j<(leaves (elemAt C e' xs i)).length by omega));exact⟨u,by rw[Addr.add_lit,cell_of_row w b _ cur e' (0,0) hh,Nat.add_assoc];exact h1⟩
    ·cases he
   ·cases he
  ·cases he
 ·cases he
theorem xX (G:Good P C) (h:Rel C B S V w N bs) (ha:lQ n V a) {o:Oper} (hok:sC n o=true) {d:Nat} (hst:gw C S o=true) {p:Option Prop} {S':St C} (he:nS C S d o=some (p,S')):Quiet P (nJ o) w (execOp a.eval o):=by
 have hall:∀x,x∈o.op.operands.toList→aT n x=true:=List.all_eq_true.1 hok;unfold gw at hst;split at hst
 ·rename_i x ho;exact quiet_move (.inl ho)
 ·rename_i x ho;exact quiet_move (.inr ho)
 ·rename_i c x y ho;exact pQ ho
 ·rename_i t x f ho;exact zp ho
 ·rename_i x i ho;exact wI ho
 ·rename_i t x i ho;exact zA ho
 ·rename_i t x i ho;exact nM ho
 ·rename_i t x f ho;refine tt ho (fun fields fd hu hf=> ?_);unfold nS at he;rw[ho]at he;simp only at he;unfold lZ at he;split at he
  ·rename_i fs zs hT;split at he
   ·rename_i off ft hfs;split at he
    ·rename_i T hTf;obtain⟨fields',g,hu',hg,hoff,hft⟩:=(G.ty t _ hT).fields hfs;rw[hu]at hu';cases hu';rw[hf]at hg;cases hg;split at he
     ·cases he
     ·rename_i hne;refine⟨T.size-1,?_⟩;rw[hft,show T.size-1+1=T.size by omega];exact(G.ty ft T hTf).sizeOf w
    ·cases he
   ·cases he
  ·cases he
 ·rename_i t x ho;have hl:nC o.op=true:=by rw[ho];rfl
  unfold nS at he;rw[ho]at he;simp only at he;obtain⟨A,m,h1,h2,h0,h3⟩:=zZ G h ha (hall x (by rw[ho];simp[Op.operands])) he;exact wb (fun w1 hk=>hk hl) ho h1 h2 h0 h3
 ·rename_i x ho;have hx:=hall x (by rw[ho];simp[Op.operands]);have hsec:=js h ha hx o.type (fun _ _=>False);split at hst
  ·rename_i q k hs;rw[hs]at hsec;obtain⟨b,_,hc⟩:=hsec;exact lL ho hc
  ·rename_i q e i k hs;rw[hs]at hsec;obtain⟨b,_,_,_,_,hc⟩:=hsec;exact lL ho hc
  ·rename_i v k hs;rw[hs]at hsec;obtain⟨b,_,_,hc,_⟩:=hsec;exact lL ho hc
  ·cases hst
 ·rename_i op t x y u ho;have hx:=iU h ha (hall x (by rw[ho];simp[Op.operands])) t;have hy:=iU h ha (hall y (by rw[ho];simp[Op.operands])) u;split at hst
  ·rename_i k m k' m' e1 e2;rw[e1]at hx;rw[e2]at hy;refine tB ho hx hy ⟨fun e=> ?_,fun e=> ?_⟩<;>(subst e;cases hst)
  ·rename_i s s' e1 e2;rw[e1]at hx;rw[e2]at hy;exact tC ho hx hy
  ·cases hst
 ·rename_i op t x ho;have hx:=iU h ha (hall x (by rw[ho];simp[Op.operands])) o.type;split at hst
  ·rename_i k m e1;rw[e1]at hx;exact uT ho (.inr ⟨_,_,hx⟩)
  ·rename_i b e1;rw[e1]at hx;exact uT ho (.inl ⟨_,hx⟩)
  ·cases hst
 ·rename_i c ho;split at hst
  ·rename_i x t ts hcl hxs hts;have hxo:aT n x=true:=hall x (by rw[ho];simp only[Op.operands,Call.operands,hcl];simp[hxs,←Array.mem_toList_iff]);have hx:=iU h ha hxo t;refine BG ho hcl (fun v hv=> ?_)
   have hv':v=a.eval x:=by
    have:c.args= #[x]:=by rw[←hxs]
    rw[this]at hv
    simpa using hv.symm
   rw[hv'];split at hst
   ·rename_i s e1;rw[e1]at hx;exact .inr ⟨_,hx⟩
   ·rename_i dp e xs e1;rw[e1]at hx;rcases hx with⟨hc,_⟩ | ⟨b,cap,cur,lab,hc,_⟩
    ·exact .inl ⟨_,_,_,hc⟩
    ·exact .inl ⟨_,_,_,hc⟩
   ·rename_i e xs e1;rw[e1]at hx;have hx:gC C w N (.sl e xs) (a.eval x):=hx;generalize a.eval x=cx at hx;cases hx with
    | nil e A k=>exact .inl ⟨_,_,_,rfl⟩
    | sl e xs b o k u _ _ _ _=>exact .inl ⟨_,_,_,rfl⟩
   ·rename_i q e1;rw[e1]at hx;obtain⟨hrow,hconc⟩:=hx;obtain⟨c',hc',hrep⟩:=eH.look h q (cc hrow);rw[hconc]at hc';cases hc';generalize a.eval x=cx at hrep;cases hl:look S q with
    | sl e xs=>
      rw[hl]at hrep;have hrep:gC C w N (.sl e xs) cx:=hrep;cases hrep with
      | nil e A k=>exact .inl ⟨_,_,_,rfl⟩
      | sl e xs b o k u _ _ _ _=>exact .inl ⟨_,_,_,rfl⟩
    | own dp e xs=>
      rw[hl]at hrep;rcases hrep with⟨hc,_⟩ | ⟨b,cap,cur,lab,hc,_⟩
      ·exact .inl ⟨_,_,_,hc⟩
      ·exact .inl ⟨_,_,_,hc⟩
    | _=>rw[hl]at hrow;cases hrow
   ·cases hst
  ·cases hst
 ·cases hst
end
end Go.Proofs.YtmapddgocpkgeaaGreat.aa
namespace Go.Proofs.YtmapddgocpkgeaaGreat.aa
open Go.RowKit
set_option linter.unusedVariables false
set_option linter.unusedSimpArgs false
variable {P:Program} {C:Ctx}
def Holds (C:Ctx) (B:fK) (n:Nat) (Vo:Nat→Value) (S:St C) (a:Act) (w:World):Prop:=
 ∃V N bs,Rel C B S V w N bs∧lQ n V a∧∀t,n≤t→V t=Vo t
section
variable {B:fK} {n:Nat} {Vo:Nat→Value} {S:St C} {a:Act} {w:World}
theorem Holds.nS (G:Good P C) (h:Holds C B n Vo S a w) {o:Oper} (hok:sC n o=true) {d:Nat} (hd:d<n) {p:Option Prop} {S':St C} (he:nS C (clear S d) d o=some (p,S')) (hp:p.getD True):
 ∃v w',(execOp a.eval o).run P w= .ok (.value v) w'∧Holds C B n Vo S' (a.put (some d) v) w':=by
 obtain⟨V,N,bs,hR,ha,hV⟩:=h;obtain⟨v,w',N',bs',hr,h1⟩:=uJ (je.of G hR ha d) hok he hp;exact⟨v,w',hr,jJ V d v,N',bs',h1,ha.put hd v,fun t ht=>by rw[gZ V d v t (by omega)];exact hV t ht⟩
theorem Holds.store (G:Good P C) (h:Holds C B n Vo S a w) {o:Oper} {t:TypeId} {p x:Operand} (ho:o.op= .store t p x) (hok:sC n o=true) {S':St C} (hs:tX C S t p x=some S'):
 ∃w',(execOp a.eval o).run P w= .ok .skip w'∧Holds C B n Vo S' a w':=by
 obtain⟨V,N,bs,hR,ha,hV⟩:=h;have hall:∀x,x∈o.op.operands.toList→aT n x=true:=List.all_eq_true.1 hok;obtain⟨w',N',bs',hr,h1⟩:=yS G hR ha ho (hall p (by rw[ho];simp[Op.operands])) (hall x (by rw[ho];simp[Op.operands])) hs;exact⟨w',hr,V,N',bs',h1,ha,hV⟩
theorem Holds.skip (h:Holds C B n Vo S a w) {d:Option Nat} (hd:∀k,d=some k→k<n):Holds C B n Vo (sg (kG C S d) d .void) (a.put d undef) w:=by
 cases d with
 | none=>exact h
 | some k=>
   obtain⟨V,N,bs,hR,ha,hV⟩:=h;have h1:=(hR.clear k (gZ V k undef)).fill k .void (lk S k) (fp V k undef);exact⟨jJ V k undef,N,bs,h1,ha.put (hd k rfl) undef,fun t ht=>by rw[gZ V k undef t (by have:=hd k rfl;omega)];exact hV t ht⟩
theorem Holds.eval (h:Holds C B n Vo S a w) {x:Operand} (hx:aT n x=true) {t:TypeId} {b:Bool} (he:ev C S t x= .bool b):a.eval x= .bool b:=by
 obtain⟨V,N,bs,hR,ha,hV⟩:=h;have:=iU hR ha hx t;rw[he]at this;exact this
theorem Holds.same (h:Holds C B n Vo S a w) {o:Oper} {d:Nat} (hd:d<n) (hok:sC n o=true) (hs:tR C S o d=true):∃v,(execOp a.eval o).run P w= .ok (.value v) w∧Holds C B n Vo S (a.put (some d) v) w:=by
 obtain⟨V,N,bs,hR,ha,hV⟩:=h;unfold tR at hs;split at hs
 ·rename_i t ho;split at hs
  ·rename_i r hg;have hr:r=(d,[]):=by simpa using hs
   subst hr
   have ht:t<n:=by
    have:=List.all_eq_true.1 hok (.tmp t) (by rw[ho];simp[Op.operands])
    simpa [aT]using this
   have hrep:=hR.fo t _ (iz hg (by simp));obtain⟨_,hc⟩:bL C S V w (d,[]) (V t):=hrep;have hVd:V d=V t:=by simpa [jf,walk]using hc
   refine⟨V t,by simp[execOp,ho,ha.eval ht],V,N,bs,hR,?_,hV⟩;have h1:=ha.put hd (V t)
   have e:jJ V d (V t)=V:=by
    funext k;unfold jJ;split
    ·rename_i hk;rw[hk,hVd]
    ·rfl
   rw[e]at h1;exact h1
  ·cases hs
 ·cases hs
theorem BH {op:Op} {c x y:Operand} (h:ug op=some (c,x,y)):op= .pick c x y:=by
 unfold ug at h;split at h
 ·cases h;rfl
 ·cases h
theorem Holds.pick (G:Good P C) (h:Holds C B n Vo S a w) {o:Oper} (hok:sC n o=true) {c x y:Operand} (ho:o.op= .pick c x y) {d:Nat} (hd:d<n) {b:Bool} (hc:ev C S 4 c= .bool b) {p:Option Prop} {S':St C} (he:mb C (clear S d) d o.type (if b=true then x else y)=some (p,S')):
 ∃v w',(execOp a.eval o).run P w= .ok (.value v) w'∧Holds C B n Vo S' (a.put (some d) v) w':=by
 have hall:∀x,x∈o.op.operands.toList→aT n x=true:=List.all_eq_true.1 hok;have hcv:=h.eval (hall c (by rw[ho];simp[Op.operands])) hc;obtain⟨V,N,bs,hR,ha,hV⟩:=h
 have hz:aT n (if b=true then x else y)=true:=by
  split
  ·exact hall x (by rw[ho];simp[Op.operands])
  ·exact hall y (by rw[ho];simp[Op.operands])
 cases he
 obtain⟨v,w',N',bs',hr,h1⟩:=(je.of G hR ha d).out (o:=o) _ (a.eval (if b=true then x else y)) (by
  cases b<;>simp[execOp,ho,hcv,asBool]) ((je.of G hR ha d).second hz _ _ _)
 exact⟨v,w',hr,jJ V d v,N',bs',h1,ha.put hd v,fun t ht=>by rw[gZ V d v t (by omega)];exact hV t ht⟩
theorem pj {p:Option Prop} {q:Prop} (h:C2 p q):p.getD True∧q:=by
 cases p with
 | none=>exact⟨trivial,h⟩
 | some p=>exact h
theorem nJ.DM {o:Oper} {w w':World} (h:gE w w'):nJ o w w':=fun _=>h
theorem Aj (G:Good P C) (h:Holds C B n Vo S a w) {o:Oper} (hok:sC n o=true) {d:Nat} {S':St C} (hm:nS C (clear (calm C S) d) d o=some (none,S')) {v:Value} {w':World} (hr:(execOp a.eval o).run P w= .ok (.value v) w'):gE w w':=by
 obtain⟨V,N,bs,hR,ha,hV⟩:=h
 have hcalm:Rel C ⟨w,fun _=>False,N⟩ (calm C S) V w N (fun _ _=>False):=by
  refine⟨fun t v hv=> ?_,fun _ _ _ h=>h.elim,fun _ _ h=>h.elim,fun b hb=>⟨(hR.kd b hb).1,.inl hb⟩,⟨rfl,rfl,rfl,Nat.le_refl _,fun _ _ _=>rfl⟩⟩;unfold calm at hv;rw[List.getElem?_map]at hv;cases hs:S[t]? with
  | none=>rw[hs]at hv;cases hv
  | some s=>
    rw[hs]at hv
    have hleaf:∀(A:ao→Value→Prop) (X:Nat→Nat→Prop) (Bx:Nat→Prop) (x:C.PV) (c:Value),aJ C (bL C S V w) (cL C S V) w N Bx x c→aJ C A X w N (fun _=>False) (qE C x) c:=fun A X Bx x c hx=>by
     cases x<;>first | trivial | exact hx
    have hrep:=hR.fo t s hs;cases s with
    | box ls=>cases hv;trivial
    | agg ls=>cases hv;exact hrep.map (f:=qE C) (fun p x c _ hx=>hleaf _ _ _ x c hx) (fun b ⟨ls,e⟩ _=>by cases e)
    | gG vs=>cases hv;exact hrep.map (f:=qE C) (fun p x c _ hx=>hleaf _ _ _ x c hx) (fun b ⟨ls,e⟩ _=>by cases e)
    | _=>cases hv;exact aR.gJ (hleaf _ _ _ _ _ (hrep.k8 rfl))
 obtain⟨v2,w2,N2,bs2,hr2,hR2⟩:=uJ (je.of G hcalm ha d) hok hm trivial;rw[hr]at hr2;simp only[Result.ok.injEq]at hr2;rw[hr2.2];exact fun b hb=>hR2.kept.block b hb (fun h=>h)
theorem zB {o:Op} {neg:Bool} {t:TypeId} {x:Operand} (h:oT o=some (neg,t,x)):∃op u,o= .binOp op t x (.const (.slice none 0 0)) u∧((op= .eql∧neg=false)∨(op= .neq∧neg=true)):=by
 unfold oT at h;split at h
 ·cases h;exact⟨_,_,rfl,.inl ⟨rfl,rfl⟩⟩
 ·cases h;exact⟨_,_,rfl,.inr ⟨rfl,rfl⟩⟩
 ·cases h
theorem mh {V:Nat→Value} {N:Nat→Prop} {bs:ao→Nat→Prop} (hR:Rel C B S V w N bs) (ha:lQ n V a) {x:Operand} (hx:aT n x=true) {t e:TypeId} {xs:List (C.U.T e)} (hread:read C S (ev C S t x)=some (.sl e xs)):∃A m k,a.eval x= .slice A m k:=by
 have:=mT hR (bG x) _ _ _ (iU hR ha hx t) (fun p b hb=>by
  cases x with
  | tmp q=>exact⟨q,rfl,rfl,hb⟩
  | const v=>exact hb.elim
  | func f=>exact hb.elim
  | global g=>exact hb.elim) hread
 have him:=this.2 rfl;generalize a.eval x=c at him;cases him with
 | nil e A k=>exact⟨_,_,_,rfl⟩
 | sl e xs b o k u _ _ _ _=>exact⟨_,_,_,rfl⟩
theorem pY (G:Good P C) {o:Oper} {op:BinOp} {t u:TypeId} {x:Operand} (ho:o.op= .binOp op t x (.const (.slice none 0 0)) u) {neg:Bool} (hop:(op= .eql∧neg=false)∨(op= .neq∧neg=true)) (hty:AX C t=true) {A:Option Addr} {m k:Nat} (hv:a.eval x= .slice A m k) (w:World):
 (execOp a.eval o).run P w= .ok (.value (.bool (A.isNone !=neg))) w:=by
 obtain⟨e,hu⟩:∃e,P.underlying t=some (.slice e):=by
  unfold AX at hty;split at hty
  ·rename_i e he;exact⟨e,by cases G.ty t _ he with | slice e h hz=>exact h⟩
  ·cases hty
 have hc:a.eval (.const (.slice none 0 0))= .slice none 0 0:=rfl
 have heq:(Op.equal t (.slice A m k) (.slice none 0 0)).run P w= .ok A.isNone w:=by
  have hd:∀d,(Op.equalIn (d+1) t (.slice A m k) (.slice none 0 0)).run P w= .ok A.isNone w:=fun d=>by
   cases A<;>simp[Op.equalIn,run_underlying hu]
  exact hd 9999
 rcases hop with⟨rfl,rfl⟩ | ⟨rfl,rfl⟩
 ·have hg:(eqGuard .eql t x (.const (.slice none 0 0)) (.slice A m k) (.slice none 0 0)).run P w= .ok () w:=by simp[eqGuard]
  have hb:binOp .eql t (.slice A m k) (.slice none 0 0)=(do pure (.bool (←Op.equal t (.slice A m k) (.slice none 0 0)))):=rfl;simp only[execOp,ho,hv,hc,Sem.run_bind,hg,Result.andThen_ok,hb,heq,Sem.run_pure];simp
 ·have hg:(eqGuard .neq t x (.const (.slice none 0 0)) (.slice A m k) (.slice none 0 0)).run P w= .ok () w:=by simp[eqGuard]
  have hb:binOp .neq t (.slice A m k) (.slice none 0 0)=(do pure (.bool (!(←Op.equal t (.slice A m k) (.slice none 0 0))))):=rfl;simp only[execOp,ho,hv,hc,Sem.run_bind,hg,Result.andThen_ok,hb,heq,Sem.run_pure];simp
theorem Holds.De (G:Good P C) (h:Holds C B n Vo S a w) {o:Oper} (hok:sC n o=true) {op:BinOp} {t u:TypeId} {x:Operand} (ho:o.op= .binOp op t x (.const (.slice none 0 0)) u) {neg:Bool} (hop:(op= .eql∧neg=false)∨(op= .neq∧neg=true)) (hty:AX C t=true) {e:TypeId} {xs:List (C.U.T e)} (hread:read C S (ev C S t x)=some (.sl e xs)):
 ∃b,(b=true→xs=[])∧(execOp a.eval o).run P w= .ok (.value (.bool (b !=neg))) w:=by
 obtain⟨V,N,bs,hR,ha,hV⟩:=h;have hx:aT n x=true:=List.all_eq_true.1 hok x (by rw[ho];simp[Op.operands])
 have him:=(mT hR (bG x) _ _ _ (iU hR ha hx t) (fun p b hb=>by
  cases x with
  | tmp q=>exact⟨q,rfl,rfl,hb⟩
  | const v=>exact hb.elim
  | func f=>exact hb.elim
  | global g=>exact hb.elim) hread).2 rfl
 obtain⟨A,m,k,hv⟩:=mh hR ha hx hread;refine⟨A.isNone,fun hA=> ?_,pY G ho hop hty hv w⟩;rw[hv]at him;cases him with
 | nil=>rfl
 | sl e xs b o k u _ _ _ _=>cases hA
theorem Holds.arr (G:Good P C) (h:Holds C B n Vo S a w) {o:Oper} (hok:sC n o=true) {d:Nat} (hd:d<n) {q p m:Nat} {j:Int} (ha:pg C (clear S d) o.op=some (q,p,m,j)) {i:Nat} (hi:i<m) (hj:j=(i:Int)):
 ∃v w',(execOp a.eval o).run P w= .ok (.value v) w'∧Holds C B n Vo ((clear S d).set d (.ptr q (p+i))) (a.put (some d) v) w'∧Quiet P (nJ o) w (execOp a.eval o):=by
 have hall:∀x,x∈o.op.operands.toList→aT n x=true:=List.all_eq_true.1 hok;unfold pg at ha;split at ha
 ·rename_i t x ix ho;split at ha
  ·rename_i m' e zs hT;split at ha
   ·rename_i q' p' k j' hx hix;simp only[Option.some.injEq,Prod.mk.injEq]at ha;obtain⟨rfl,rfl,rfl,rfl⟩:=ha;obtain⟨V,N,bs,hR,hat,hV⟩:=h;have hpre:=je.of G hR hat d;have hxo:=hall x (by rw[ho];simp[Op.operands]);have hio:=hall ix (by rw[ho];simp[Op.operands]);have hrep:=fun c=>hpre.second hxo t c (fun _ _=>False);rw[hx]at hrep;obtain⟨b,_,hc⟩:=hrep undef;have hm:=hpre.int hio hix
    obtain⟨hu,ie,hie,hsz⟩:P.underlying t=some (.array m' e)∧∃i,P.info? e=some i∧i.size=1:=by
     cases G.ty t _ hT with
     | arr n e zs cs h hn he hz hs hc=>exact⟨h,he.2⟩
    obtain⟨v,w',N',bs',hr,h1⟩:=hpre.out (o:=o) (.ptr q' (p'+i)) (.pointer (some ⟨b,p'+i,none⟩)) (by
     subst hj;have h0:(0:Int)≤(i:Int):=by omega
     have h2:(i:Int)<(m':Int):=by omega
     simp[execOp,ho,hc,hm,Instr.indexAt,Instr.sureAddr,asIntOf,run_underlying hu,hi,sizeOf,typeInfo,hie,hsz,Addr.add_lit]) (by
     obtain⟨b',hX,hc'⟩:=hrep (.pointer (some ⟨b,p'+i,none⟩));rw[hc]at hc';simp only[Value.pointer.injEq,Option.some.injEq,Addr.mk.injEq,and_true]at hc';obtain⟨rfl,_⟩:=hc';exact⟨b,hX,rfl⟩)
    exact⟨v,w',hr,⟨jJ V d v,N',bs',h1,hat.put hd v,fun t ht=>by rw[gZ V d v t (by omega)];exact hV t ht⟩,nM ho⟩
   ·cases ha
  ·cases ha
 ·cases ha
theorem ry {m:Int} {f:Nat→Prop}:∀(n i:Nat),qX m f i n→∃j,j<i+n∧m=(j:Int)∧f j
 | 0,i,h=>h.elim
 | n+1,i,h=>by
   unfold qX at h;split at h
   ·rename_i e;exact⟨i,by omega,of_decide_eq_true e,h⟩
   ·obtain⟨j,h1,h2,h3⟩:=ry n (i+1) h;exact⟨j,by omega,h2,h3⟩
theorem wA (w:World) (dT sT ty e:TypeId) (A A':Option Addr) (cap m k:Nat) (hu:P.underlying dT=some (.slice e)) (hs:(P.info? e).isSome=true):
 (Builtin.copy_ #[dT,sT] ty #[.slice A 0 cap,.slice A' m k]).run P w= .ok (goInt 0) w:=by
 cases hq:P.info? e with
 | none=>rw[hq]at hs;cases hs
 | some i=>
   have h0:Nat.min m 0=0:=Nat.min_zero m;cases A<;>cases A'<;>simp[Builtin.copy_,run_underlying hu,Builtin.lenOf,Builtin.firstCells,sizeOf,typeInfo,hq,h0,loadCells,loadCellsFrom,storeCells]
theorem Holds.DT (G:Good P C) (h:Holds C B n Vo S a w) {Q:bE C} {K:iR C} {o:Oper} (hok:sC n o=true) (hd:∀d,o.dst=some d→d<n) {k:St C→Prop} (he:pU C Q K o S k) (hcall:gx o.op=none):
 (∃v w' S',(execOp a.eval o).run P w= .ok (.value v) w'∧k S'∧Holds C B n Vo S' (a.put o.dst v) w'∧(gw C (kG C S o.dst) o=true→Quiet P (nJ o) w (execOp a.eval o))∧(jR C Q S o=true→gE w w'))∨
 (∃w' S',(execOp a.eval o).run P w= .ok .skip w'∧k S'∧Holds C B n Vo S' (a.put o.dst undef) w'∧gw C (kG C S o.dst) o=false∧jR C Q S o=false):=by
 have agreeOf:∀{v:Value} {w':World},(execOp a.eval o).run P w= .ok (.value v) w'→Quiet P (nJ o) w (execOp a.eval o)→gE w w':=fun hr hq=>by
  rw[(hq _ _ hr).1];exact gE.refl w
 unfold pU at he;split at he
 ·rename_i neg t x d hnil hdst;obtain⟨op,u,ho,hop⟩:=zB hnil
  left
  split at he
  ·rename_i e xs hty hread;obtain⟨he1,he2⟩:=he;obtain⟨b,hb,hrun⟩:=h.De (P:=P) G hok ho hop hty hread;refine⟨.bool (b !=neg),w,(clear S d).set d (.bool (b !=neg)),hrun,?_,?_,fun hs=> ?_,fun _=>gE.refl w⟩
   ·cases b with
    | true=>cases neg<;>exact he1 (hb rfl)
    | false=>cases neg<;>exact he2
   ·obtain⟨V,N,bs,hR,ha,hV⟩:=h;rw[hdst];have hdn:=hd d hdst;exact⟨jJ V d (.bool (b !=neg)),N,bs,(hR.clear d (gZ V d _)).fill d _ (lk S d) (fp V d _),ha.put hdn _,fun t' ht=>by rw[gZ V d _ t' (Nat.ne_of_gt (Nat.lt_of_lt_of_le hdn ht))];exact hV t' ht⟩
   ·obtain⟨V,N,bs,hR,ha,hV⟩:=h;intro y w1 hr1;rw[hrun]at hr1;simp only[Result.ok.injEq]at hr1;obtain⟨rfl,rfl⟩:=hr1;refine⟨rfl,fun w2 _=> ?_⟩;obtain⟨A,m,k',hv⟩:=mh hR ha (List.all_eq_true.1 hok x (by rcases hop with⟨rfl,rfl⟩ | ⟨rfl,rfl⟩<;>(rw[ho];simp[Op.operands]))) hread;have:=pY (P:=P) G ho hop hty hv w2;have h0:=pY (P:=P) G ho hop hty hv w;rw[hrun]at h0;simp only[Result.ok.injEq,Next.value.injEq,and_true]at h0;rw[h0];exact this
  ·exact he.elim
 have he:pZ C Q K o S k∨∃d q p m j,o.dst=some d∧pg C (clear S d) o.op=some (q,p,m,j)∧qX j (fun i=>k ((clear S d).set d (.ptr q (p+i)))) 0 m:=by
  unfold AY at he;split at he
  ·rename_i d hdst;split at he
   ·rename_i q p m j har;exact .inr ⟨d,q,p,m,j,hdst,har,he⟩
   ·exact .inl he
  ·exact .inl he
 rcases he with he | ⟨d,q,p,m,j,hdst,har,he⟩
 rotate_left
 ·left
  obtain⟨i,hi,hj,hk⟩:=ry m 0 he;obtain⟨v,w',hr,h1,hq⟩:=h.arr (P:=P) G hok (hd d hdst) har (by omega) hj;exact⟨v,w',_,hr,hk,by rw[hdst];exact h1,fun _=>hq,fun _=>agreeOf hr hq⟩
 unfold pZ at he;split at he
 ·rename_i c x y d hp hdst;have ho:=BH hp
  have fin:∀(b:Bool),ev C S 4 c= .bool b→pB C (mb C (clear S d) d o.type (if b=true then x else y)) k→∃v w' S',(execOp a.eval o).run P w= .ok (.value v) w'∧k S'∧Holds C B n Vo S' (a.put o.dst v) w'∧(gw C (kG C S o.dst) o=true→Quiet P (nJ o) w (execOp a.eval o))∧(jR C Q S o=true→gE w w'):=fun b hb he=>by
   unfold pB at he;split at he
   ·rename_i p S' hm;obtain⟨v,w',hr,h1⟩:=h.pick G hok ho (hd d hdst) hb hm;exact⟨v,w',S',hr,(pj he).2,by rw[hdst];exact h1,fun _=>pQ ho,fun _=>agreeOf hr (pQ ho)⟩
   ·exact he.elim
  left
  split at he
  ·rename_i t hb;cases t with
   | true=>exact fin true hb (by simpa using he)
   | false=>exact fin false hb (by simpa using he)
  ·exact he.elim
 ·rename_i f xs dst hp hcl;rw[hcl]at hcall;cases hcall
 ·rename_i d hp hcl hdst
  left
  split at he
  ·rename_i hs;obtain⟨v,hr,h1⟩:=h.same (P:=P) (hd d hdst) hok hs
   have hq:Quiet P (nJ o) w (execOp a.eval o):=by
    unfold tR at hs;split at hs
    ·rename_i t ho;exact quiet_move (.inr ho)
    ·cases hs
   exact⟨v,w,S,hr,he,by rw[hdst];exact h1,fun _=>hq,fun _=>gE.refl w⟩
  ·unfold pB at he;split at he
   ·rename_i p S' hev;obtain⟨hp',hq⟩:=pj he;obtain⟨v,w',hr,h1⟩:=h.nS G hok (hd d hdst) hev hp'
    have hst:gw C (kG C S o.dst) o=true→Quiet P (nJ o) w (execOp a.eval o):=fun hs=>by
     rw[hdst]at hs;obtain⟨V,N,bs,hR,ha,hV⟩:=h;exact xX G (hR.clear d (fun _ _=>rfl)) ha hok hs hev
    refine⟨v,w',S',hr,hq,by rw[hdst];exact h1,hst,fun hm=> ?_⟩;unfold jR at hm;rw[hcl,hdst]at hm;simp only[Bool.or_eq_true]at hm;rcases hm with hm | hm
    ·exact agreeOf hr (hst (by rw[hdst];exact hm))
    ·split at hm
     ·rename_i S'' hcm;exact Aj G h hok hcm hr
     ·cases hm
   ·exact he.elim
 ·rename_i hp hcl hdst
  right
  split at he
  ·rename_i t p x ho;split at he
   ·rename_i S' hst;obtain⟨w',hr,h1⟩:=h.store G ho hok hst;refine⟨w',S',hr,he,by rw[hdst];exact h1,by unfold gw;rw[ho],?_⟩;unfold jR;rw[hcl,hdst];have:gw C (kG C S none) o=false:=by unfold gw;rw[ho]
    rw[this];rfl
   ·exact he.elim
  ·exact he.elim
 ·exact he.elim
theorem Holds.one (G:Good P C) (h:Holds C B n Vo S a w) {Q:bE C} {K:iR C} {o:Oper} (hok:sC n o=true) (hd:∀d,o.dst=some d→d<n) {k:St C→Prop} (he:mO C Q K o S k) (hcall:gx o.op=none):
 (∃v w' S',(execOp a.eval o).run P w= .ok (.value v) w'∧k S'∧Holds C B n Vo S' (a.put o.dst v) w'∧(gw C (kG C S o.dst) o=true→Quiet P (nJ o) w (execOp a.eval o))∧(jR C Q S o=true→gE w w'))∨
 (∃w' S',(execOp a.eval o).run P w= .ok .skip w'∧k S'∧Holds C B n Vo S' (a.put o.dst undef) w'∧gw C (kG C S o.dst) o=false∧jR C Q S o=false):=by
 unfold mO at he;split at he
 ·rename_i d e xs hdst hov;split at he
  ·rename_i hemp;have hxs:xs=[]:=by simpa using hemp
   unfold sj at hov;split at hov
   ·rename_i c hop;split at hov
    ·rename_i s x t t' hcl hargs htys;split at hov
     ·rename_i e1 xs1 e2 zs hr1 hr2;split at hov
      ·rename_i hcond;obtain⟨rfl,hty⟩:=hcond;cases hov;subst hxs;obtain⟨hu,hsl⟩:=G.jY hty;obtain⟨ie,z,hie,_,hisz,_⟩:=G.elem t' e hsl
       have hops:aT n s=true∧aT n x=true:=by
        have ha:=List.all_eq_true.1 hok;rw[hop]at ha;have hm:∀y,y∈c.args.toList→aT n y=true:=fun y hy=>ha y (by simp[Op.operands,Call.operands,hcl];first | simpa using hy | exact .inr (by simpa using hy));rw[hargs]at hm;exact⟨hm s (by simp),hm x (by simp)⟩
       obtain⟨V,N,bs,hR,ha,hV⟩:=h
       have him:=(mT hR (bG s) _ _ _ (iU hR ha hops.1 t') (fun p b hb=>by
        cases s with
        | tmp q=>exact⟨q,rfl,rfl,hb⟩
        | const v=>exact hb.elim
        | func f=>exact hb.elim
        | global g=>exact hb.elim) hr1).2 rfl
       obtain⟨A',m,k',hv2⟩:=mh hR ha hops.2 hr2
       have hv1:∃A cap,a.eval s= .slice A 0 cap:=by
        rcases him.mL with⟨_,A,cap,h1⟩ | ⟨b,o',cap,u,h1,_⟩
        ·exact⟨A,cap,h1⟩
        ·exact⟨_,cap,h1⟩
       obtain⟨A,cap,hv1⟩:=hv1;have hrun0:=wA (P:=P) w t' t' o.type e A A' cap m k' hu (by rw[hie];rfl);have hargs':c.args= #[s,x]:=by rw[←Array.toArray_toList (xs:=c.args),hargs]
       have htys':c.argTypes= #[t',t']:=by rw[←Array.toArray_toList (xs:=c.argTypes),htys]
       have hrun:(execOp a.eval o).run P w= .ok (.value (.int .i64 0)) w:=by
        simp[execOp,hop,resolve,hcl,hargs',htys',invoke,builtin,hv1,hv2,hrun0,goInt]
       have hdn:=hd d hdst;refine .inl ⟨.int .i64 0,w,_,hrun,he,?_,fun hs=> ?_,fun _=>gE.refl w⟩
       ·rw[hdst];exact⟨jJ V d (.int .i64 0),N,bs,(hR.clear d (gZ V d _)).fill d _ (lk S d) (fp V d _),ha.put hdn _,fun t' ht=>by rw[gZ V d _ t' (Nat.ne_of_gt (Nat.lt_of_lt_of_le hdn ht))];exact hV t' ht⟩
       ·unfold gw at hs;rw[hop]at hs;simp only[hcl,hargs,htys]at hs;cases hs
      ·cases hov
     ·cases hov
    ·cases hov
   ·cases hov
  ·exact h.DT G hok hd he hcall
 ·exact h.DT G hok hd he hcall
theorem Holds.lit (h:Holds C B n Vo S a w) {t:Nat} (ht:t<n) {b c:Bool} (hg:get S t= .bool b) (hb:b=c):Holds C B n Vo (S.set t (.bool c)) a w:=by
 subst hb
 have:S.set t (.bool b)=S:=by
  apply List.ext_getElem?;intro i;rw[List.getElem?_set];have:=iz hg (by simp);split
  ·rename_i e;subst e;rw[this];simp[(List.getElem?_eq_some_iff.1 this).1]
  ·rfl
 rw[this];exact h
theorem Holds.yielded (h:Holds C B n Vo S a w) {ops:Array Oper} {j t:Nat} (hj:(ops[j]?).bind (·.dst)=some t) (ht:t<n):
 (∀b,get S t= .bool b→Go.yielded ops a.tmps j=some b)∧(get S t= .void→Go.yielded ops a.tmps j=none):=by
 obtain⟨V,N,bs,hR,ha,hV⟩:=h;have htm:=ha.tmp t ht;unfold Go.yielded;rw[hj,Option.bind_some,htm];refine⟨fun b hg=> ?_,fun hg=> ?_⟩
 ·have:V t= .bool b:=by
   have:=hR.fo t _ (iz hg (by simp));exact this
  rw[this]
 ·have:V t=undef:=by
   have:=hR.fo t _ (iz hg (by simp));exact this
  rw[this];rfl
def kL (P:Program) (C:Ctx) (B:fK) (n:Nat) (Vo:Nat→Value) (Q:bE C) (K:iR C) (Q':Exit→Act→World→Prop) (o:Oper):Prop:=
 ∀(S:St C) (a:Act) (w:World) (k:St C→Prop) (next:Act→World→Prop),Holds C B n Vo S a w→mO C Q K o S k→(∀S' a' w',k S'→Holds C B n Vo S' a' w'→(jR C Q S o=true→gE w w')→next a' w')→o.wp P a w next Q'
def jU (n:Nat) (o:Oper):Prop:=sC n o=true∧∀d,o.dst=some d→d<n
theorem zn (G:Good P C) (Q:bE C) (K:iR C) (h:Holds C B n Vo S a w) {o:Oper} (hok:jU n o) {k:St C→Prop} (he:mO C Q K o S k) {next:Act→World→Prop} {Q':Exit→Act→World→Prop}
 (hk:∀S' a' w',k S'→Holds C B n Vo S' a' w'→(jR C Q S o=true→gE w w')→next a' w') (hcall:(gx o.op).isSome=true→kL P C B n Vo Q K Q' o):o.wp P a w next Q':=by
 cases hc:gx o.op with
 | some fx=>exact hcall (by rw[hc];rfl) S a w k next h he hk
 | none=>
   rcases h.one G hok.1 hok.2 he hc with⟨v,w',S',hr,hkS,h1,_,hm⟩ | ⟨w',S',hr,hkS,h1,_,hm⟩
   ·unfold Oper.wp;rw[hr,Oper.upon_value];exact hk _ _ _ hkS h1 hm
   ·unfold Oper.wp;rw[hr,Oper.upon_skip];exact hk _ _ _ hkS h1 (fun e=>by rw[hm]at e;cases e)
theorem pG (h:Holds C B n Vo S a w) {Q:bE C} {K:iR C} {chk:St C→Bool} {all:Array Oper} (hall:∀(j:Nat) (o:Oper),all[j]? =some o→jU n o) {o:Oper} (hod:∀d,o.dst=some d→d<n) {k:St C→Prop} (he:ky C Q K chk o all S k):
 (Region.wanted o (Go.yielded all a.tmps)=true∧∃S1,Holds C B n Vo S1 a w∧chk S1=true∧mO C Q K o S1 k)∨
 (Region.wanted o (Go.yielded all a.tmps)=false∧∃S1,k S1∧Holds C B n Vo S1 (a.put o.dst undef) w):=by
 have chk1:∀S1,Holds C B n Vo S1 a w→(if chk S1=true then mO C Q K o S1 k else False)→∃S1,Holds C B n Vo S1 a w∧chk S1=true∧mO C Q K o S1 k:=fun S1 h1 he=>by
  split at he
  ·rename_i hc;exact⟨S1,h1,hc,he⟩
  ·exact he.elim
 unfold ky at he;split at he
 ·rename_i hg;exact .inl ⟨by unfold Region.wanted;rw[hg],chk1 S h he⟩
 ·rename_i j wv hg;split at he
  ·rename_i t hj
   have ht:t<n:=by
    cases ho:all[j]? with
    | none=>rw[ho]at hj;cases hj
    | some o'=>rw[ho]at hj;exact(hall j o' ho).2 t hj
   obtain⟨hy1,hy2⟩:=h.yielded hj ht;have hw:Region.wanted o (Go.yielded all a.tmps)=(Go.yielded all a.tmps j==some wv):=by unfold Region.wanted;rw[hg]
   split at he
   ·rename_i b hb;rw[hy1 b hb]at hw;split at he
    ·rename_i hbt;split at he
     ·rename_i hwt;exact .inl ⟨by rw[hw,hbt,hwt];rfl,chk1 _ (h.lit ht hb hbt) he⟩
     ·rename_i hwt
      exact .inr ⟨by
       rw[hw,hbt];cases wv with
       | false=>rfl
       | true=>exact absurd rfl hwt,_,he,(h.lit ht hb hbt).skip hod⟩
    ·rename_i hbt;have hbf:b=false:=by simpa using hbt
     split at he
     ·rename_i hwt;exact .inl ⟨by rw[hw,hbf,hwt];rfl,chk1 _ (h.lit ht hb hbf) he⟩
     ·rename_i hwt
      exact .inr ⟨by
       rw[hw,hbf];cases wv with
       | true=>rfl
       | false=>exact absurd rfl hwt,_,he,(h.lit ht hb hbf).skip hod⟩
   ·rename_i hb;rw[hy2 hb]at hw;exact .inr ⟨by rw[hw];rfl,_,he,h.skip hod⟩
   ·exact he.elim
  ·exact he.elim
theorem mn (G:Good P C) (Q:bE C) (K:iR C) {Q':Exit→Act→World→Prop} {k:St C→Prop} {chk:St C→Bool} {all:Array Oper} (hall:∀(j:Nat) (o:Oper),all[j]? =some o→jU n o) (hcall:∀(j:Nat) (o:Oper),all[j]? =some o→(gx o.op).isSome=true→kL P C B n Vo Q K Q' o)
 {i:Nat} {o:Oper} (hi:all[i]? =some o) (h:Holds C B n Vo S a w) (he:ky C Q K chk o all S k) {next:Act→World→Prop}
 (hk:∀S1 S' a' w',chk S1=true→(jR C Q S1 o=true→gE w w')→k S'→Holds C B n Vo S' a' w'→next a' w') (hk0:∀S' a',k S'→Holds C B n Vo S' a' w→next a' w):wpOp P all Q' i next a w:=by
 unfold wpOp;simp only[hi];rcases pG h hall (hall i o hi).2 he with⟨hw,S1,h1,hc,he1⟩ | ⟨hw,S1,hk1,h1⟩
 ·rw[hw];simp only[if_true];exact .inl (zn G Q K h1 (hall i o hi) he1 (fun S' a' w' hks h' hm=>hk S1 S' a' w' hc hm hks h') (hcall i o hi))
 ·rw[hw];simp only[Bool.false_eq_true,if_false];exact hk0 S1 _ hk1 h1
theorem yB {o o2:Oper} {t:TypeId} {x lo:Operand} {d:Nat} (h:Ak o o2=some (t,x,lo,d)):o.op= .slice t x (some lo) none none∧o.dst=some d∧o.guard=none∧o2.dst=none∧o2.guard=none∧
 ∃c,o2.op= .call c∧c.callee= .builtin .clear∧c.args.toList=[.tmp d]∧c.argTypes.toList=[t]:=by
 unfold Ak at h;split at h
 ·rename_i t' x' lo' d' ho hd hg;split at h
  ·rename_i c ho2 hd2 hg2;split at h
   ·rename_i d2 t2 hcl hxs hts;split at h
    ·rename_i hc;obtain⟨rfl,rfl⟩:=hc;cases h;exact⟨ho,hd,hg,hd2,hg2,c,ho2,hcl,hxs,hts⟩
    ·cases h
   ·cases h
  ·cases h
 ·cases h
theorem wy {z:Array Value} {u:Value} (hz:z= #[u]) (m:Nat):(Builtin.zeroCells z m).toList=List.replicate m u:=by
 rw[hz];simp[Builtin.zeroCells];apply List.ext_getElem
 ·simp
 ·intro i h1 h2;simp[Nat.mod_one]
theorem Holds.tail (G:Good P C) (h:Holds C B n Vo S a w) {o o2:Oper} (hok:jU n o) {p:Prop} {S':St C} (he:Ac C S o o2=some (p,S')) (hp:p):
 o.guard=none∧o2.guard=none∧∃v w' u,(execOp a.eval o).run P w= .ok (.value v) w∧(execOp (a.put o.dst v).eval o2).run P w= .ok (.value u) w'∧Holds C B n Vo S' ((a.put o.dst v).put o2.dst u) w':=by
 unfold Ac at he;split at he
 ·rename_i t x lo d hit;obtain⟨ho,hdst,hg,hdst2,hg2,c,ho2,hcl,hcx,hct⟩:=yB hit;have hd:d<n:=hok.2 d hdst;have hall:∀x,x∈o.op.operands.toList→aT n x=true:=List.all_eq_true.1 hok.1;have hx:aT n x=true:=hall x (by rw[ho];simp[Op.operands]);have hlo:aT n lo=true:=hall lo (by rw[ho];simp[Op.operands]);split at he
  ·rename_i dp r e xs kk m hrow hm;split at he
   ·rename_i hcond;obtain⟨hty,hflat,hlen1⟩:=hcond;simp only[Option.some.injEq,Prod.mk.injEq]at he;obtain⟨rfl,rfl⟩:=he;obtain⟨p0,p1⟩:=hp;have p1:m<(xs.length:Int):=p1;have hsz1:C.sz e=1:=hlen1;obtain⟨hu,hsl⟩:=G.jY hty;obtain⟨ie,z,hie,hiz,hisz,_,hzs,_,_,hall0⟩:=G.elem t e hsl;obtain⟨V,N,bs,hR,ha,hV⟩:=h;have h0:=je.of G hR ha d;obtain⟨hrow0,hlook⟩:=(h0.row hx hrow undef).2 dp r rfl;obtain⟨c',hc',hrep⟩:=eH.look (h0.rel undef) r (cc hrow0.1);rw[hrow0.2]at hc';cases hc';rw[hlook]at hrep;have hrep:fk C w N (bs r) dp e xs (a.eval x):=hrep;rcases hrep with⟨_,rfl⟩ | ⟨b,cap,cur,lab,hsv,hbr,hlab,hh,hncap,hcapm,hcs,h4⟩
    ·simp at p1;omega
    have hbl:bound C (clear S d) (some lo)=some (some m):=by unfold bound;simp only[hm]
    have hbh:bound C (clear S d) none=some none:=rfl;obtain⟨kl,el⟩:=jj h0 (x:=some lo) (fun y hy=>by cases hy;exact hlo) hbl;obtain⟨kh,eh⟩:=jj h0 (x:=none) (fun y hy=>by cases hy) hbh;have hb:=nz (P:=P) true xs.length cap _ _ (some m) none kl kh el eh p0 (by show m≤(xs.length:Int);omega) (by show(xs.length:Int)≤xs.length;omega) hncap w;obtain⟨k,hk⟩:∃k,xs.length-m.toNat=k+1:=⟨xs.length-m.toNat-1,by omega⟩;have hcm:¬cap=m.toNat:=by omega
    have hrun:(execOp a.eval o).run P w= .ok (.value (.slice (some ⟨b,m.toNat,none⟩) (k+1) (cap-m.toNat))) w:=by
     have hb':=hb;simp only[Option.getD_some,Option.getD_none,Int.toNat_natCast,Option.map_some,Option.map_none]at hb';simp[execOp,ho,Instr.sliceAt,Instr.slice,run_underlying hu,hsv,hb',sizeOf,typeInfo,hie,hisz,hsz1,hcm,hk,Addr.add_lit]
    generalize hv:Value.slice (some ⟨b,m.toNat,none⟩) (k+1) (cap-m.toNat)=v at hrun;have ha1:=ha.put hd v;have hev:(a.put (some d) v).eval (.tmp d)= .slice (some ⟨b,m.toNat,none⟩) (k+1) (cap-m.toNat):=by rw[ha1.eval hd,fp,hv]
    obtain⟨zu,hzu⟩:∃zu,z.cells= #[zu]:=by
     have:z.cells.size=1:=by rw[hzs,hsz1]
     exact⟨z.cells[0],Array.ext (by simp[this]) (fun i h1 h2=>by have:i=0:=by simp at h2;omega
                                                                 subst this;rfl)⟩
    obtain⟨v0,hv0⟩:∃v0,leaves (C.enc e (C.U.d e))=[v0]:=by
     match hh:leaves (C.enc e (C.U.d e)),hlen1 with
     | [v0],_=>exact⟨v0,rfl⟩
    have hzo:ic C v0 zu:=by
     obtain⟨u,hu1,hu2⟩:=hall0 0 v0 (by rw[hv0];rfl);rw[hzu]at hu1;simp at hu1;subst hu1;exact hu2
    have hinz:nI C w N (fun _=>False) false v0 zu:=hzo.Dc (G.kE e _ v0 (by rw[hv0];simp)) false
    have h1c:∀y∈List.replicate (k+1) zu,y.oneCell'=true:=fun y hy=>by
     rw[List.eq_of_mem_replicate hy];exact(show gC C w N v0 zu from hinz).cells.2.2
    have hfit:m.toNat+0+(List.replicate (k+1) zu).length≤cur.size:=by rw[List.length_replicate,hcs,hsz1];omega
    have hst:=run_storeCells_at (P:=P) b m.toNat e (List.replicate (k+1) zu) 0 cur w hh hfit h1c;simp only[Nat.add_zero]at hst
    let cur':=(cur.toList.take m.toNat++List.replicate (k+1) zu++cur.toList.drop (m.toNat+(List.replicate (k+1) zu).length)).toArray
    have hargs:c.args= #[.tmp d]:=by rw[←Array.toArray_toList (xs:=c.args),hcx]
    have htys:c.argTypes= #[t]:=by rw[←Array.toArray_toList (xs:=c.argTypes),hct]
    have hzc:=wy hzu (k+1)
    have hrun2:(execOp (a.put (some d) v).eval o2).run P w= .ok (.value (.tuple #[])) (w.setRow b cur'):=by
     simp[execOp,ho2,resolve,hcl,hargs,htys,invoke,builtin,hev,Builtin.clear_,run_underlying hu,zeroValue,typeInfo,hie,hiz,hzc,hst,cur']
    have hR1:Rel C B (clear S d) (jJ V d v) w N bs:=h0.rel v;have hrow1:=(h0.row hx hrow v).2 dp r rfl
    have hget:∀j,cur'[j]? =if m.toNat≤j∧j<m.toNat+(k+1)then(List.replicate (k+1) zu)[j-m.toNat]? else cur[j]? :=fun j=>by
     have:=mv cur (List.replicate (k+1) zu) m.toNat (by simpa using hfit) j;have e1:(List.replicate (k+1) zu).length=k+1:=List.length_replicate;refine this.trans ?_;rw[e1]
    obtain⟨bs',h1⟩:=hR1.overwrite (xs:=xs) (cur':=cur') (xs':=xs.take m.toNat++List.replicate (xs.length-m.toNat) (C.U.d e)) G hlook hflat hsz1 hbr (by rw[hrow1.1.2,hsv]) hncap hcapm (by
     rw[←hcs];simp only[cur',List.size_toArray,List.length_append,List.length_take,List.length_drop,List.length_replicate,Array.length_toList];rw[List.length_replicate]at hfit;omega) hh rfl (by rw[List.length_append,List.length_take,List.length_replicate];omega) (fun j y hy y0 hy0=>by
     have hmem:=List.mem_of_getElem? hy0;rw[hget];have hjl:=(List.getElem?_eq_some_iff.1 hy).1;rw[List.length_append,List.length_take,List.length_replicate]at hjl
     by_cases hj:j<m.toNat
     ·rw[if_neg (by omega)];rw[List.getElem?_append_left (by rw[List.length_take];omega),List.getElem?_take_of_lt hj]at hy;obtain⟨u',hu',hin⟩:=h4 j y hy 0 y0 hy0;rw[hsz1,Nat.mul_one,Nat.add_zero]at hu';exact⟨u',hu',qY G hflat hmem hin⟩
     ·rw[if_pos (by omega)];rw[List.getElem?_append_right (by rw[List.length_take];omega),List.length_take,Nat.min_eq_left (by omega)]at hy;rw[List.getElem?_replicate]at hy;split at hy
      ·cases hy;rw[hv0]at hy0;cases hy0;exact⟨zu,by rw[List.getElem?_replicate,if_pos (by omega)],qY G hflat (by rw[hv0];simp) hinz⟩
      ·cases hy)
    refine⟨hg,hg2,v,w.setRow b cur',.tuple #[],hrun,by rw[hdst];exact hrun2,?_⟩;rw[hdst,hdst2];exact⟨jJ V d v,N,bs',h1,ha1,fun t' ht=>by rw[gZ V d v t' (Nat.ne_of_gt (Nat.lt_of_lt_of_le hd ht))];exact hV t' ht⟩
   ·cases he
  ·cases he
 ·cases he
theorem lS (G:Good P C) (Q:bE C) (K:iR C) {Q':Exit→Act→World→Prop} {k:St C→Prop} (all:Array Oper) (hall:∀(j:Nat) (o:Oper),all[j]? =some o→jU n o) (hcall:∀(j:Nat) (o:Oper),all[j]? =some o→(gx o.op).isSome=true→kL P C B n Vo Q K Q' o)
 (hk:∀S' a' w',k S'→Holds C B n Vo S' a' w'→Q' .normal a' w'):
 ∀(os:List Oper) (i:Nat) {S:St C} {a:Act} {w:World},os=all.toList.drop i→Holds C B n Vo S a w→wN C Q K os all S k→wpOps P all Q' (List.range' i os.length) a w
 | [],i,S,a,w,hos,h,he=>hk _ _ _ he h
 | [o],i,S,a,w,hos,h,he=>by
   have hi:all[i]? =some o:=by
    have:all.toList[i]? =some o:=by
     have h0:=congrArg (fun l=>l[0]?) hos;simp only[List.getElem?_cons_zero,List.getElem?_drop,Nat.add_zero]at h0;exact h0.symm
    simpa using this
   rw[List.length_cons,List.range'_succ,wpOps_cons];unfold wN at he;exact mn G Q K hall hcall hi h he (fun S1 S' a' w' _ _ hks h'=>hk _ _ _ hks h') (fun S' a' hks h'=>hk _ _ _ hks h')
 | o::o2::os,i,S,a,w,hos,h,he=>by
   have hi:all[i]? =some o:=by
    have:all.toList[i]? =some o:=by
     have h0:=congrArg (fun l=>l[0]?) hos;simp only[List.getElem?_cons_zero,List.getElem?_drop,Nat.add_zero]at h0;exact h0.symm
    simpa using this
   have hrest:o2::os=all.toList.drop (i+1):=by
    have:=congrArg List.tail hos
    simpa [List.tail_drop]using this
   rw[List.length_cons,List.range'_succ,wpOps_cons];unfold wN at he;split at he
   ·rename_i p S' htl;obtain⟨hp,he⟩:=he;obtain⟨hg,hg2,v,w',u,hr1,hr2,h'⟩:=h.tail (P:=P) G (hall i o hi) htl hp
    have hi2:all[i+1]? =some o2:=by
     have:all.toList[i+1]? =some o2:=by
      have h0:=congrArg (fun l=>l[0]?) hrest;simp only[List.getElem?_cons_zero,List.getElem?_drop,Nat.add_zero]at h0;exact h0.symm
     simpa using this
    have hrest2:os=all.toList.drop (i+1+1):=by
     have:=congrArg List.tail hrest
     simpa [List.tail_drop]using this
    have step:∀(j:Nat) (o':Oper) (a':Act) (w0 w1:World) (v':Value) (next:Act→World→Prop),all[j]? =some o'→o'.guard=none→(execOp a'.eval o').run P w0= .ok (.value v') w1→next (a'.put o'.dst v') w1→wpOp P all Q' j next a' w0:=fun j o' a' w0 w1 v' next hj hgd hrn hnx=>by
     unfold wpOp;simp only[hj];have hw:Region.wanted o' (Go.yielded all a'.tmps)=true:=by unfold Region.wanted;rw[hgd]
     rw[hw];simp only[if_true];refine .inl ?_;unfold Oper.wp;rw[hrn,Oper.upon_value];exact hnx
    refine step i o a w w v _ hi hg hr1 ?_;rw[List.length_cons,List.range'_succ,wpOps_cons];exact step (i+1) o2 _ w w' u _ hi2 hg2 hr2 (lS G Q K all hall hcall hk os (i+1+1) hrest2 h' he)
   ·exact mn G Q K hall hcall hi h he (fun S1 S' a' w' _ _ hks h'=>lS G Q K all hall hcall hk (o2::os) (i+1) hrest h' hks) (fun S' a' hks h'=>lS G Q K all hall hcall hk (o2::os) (i+1) hrest h' hks)
theorem Holds.keep (live:List Nat):∀(m i:Nat) {S:St C},Holds C B n Vo S a w→Holds C B n Vo (qZ live i m S) a w
 | 0,i,S,h=>h
 | m+1,i,S,h=>by
   refine Holds.keep live m (i+1) ?_;split
   ·exact h
   ·obtain⟨V,N,bs,hR,ha,hV⟩:=h;exact⟨V,N,bs,hR.clear i (fun _ _=>rfl),ha,hV⟩
theorem Holds.xR (h:Holds C B n Vo S a w) (Q:bE C) (i:Nat):Holds C B n Vo (ml Q i S) a w:=by
 obtain⟨V,N,bs,hR,ha,hV⟩:=h;obtain⟨N',bs',h1⟩:=hR.ml Q i;exact⟨V,N',bs',h1,ha,hV⟩
def pa (P:Program) (c:Code) (Q':Exit→Act→World→Prop) (a:Act) (w:World):Prop:=
 ∀(b:Frame) (k:List Item) (cs:List Frame),∃e a' w',Q' e a' w'∧Arrives P (lone (b.at a (.inLoop c::k)) cs w) b k cs e a' w'
theorem An {c:Code} {Q':Exit→Act→World→Prop} (h:c.wp P (Exit.then (pa P c Q') Q') a w):(Code.loop c).wp P Q' a w:=by
 intro b k cs;obtain⟨e,a₁,w₁,hq,harr⟩:=h b (.inLoop c::k) cs;cases e with
 | normal=>
   obtain⟨e₂,a₂,w₂,hq₂,harr₂⟩:=hq b k cs;exact⟨e₂,a₂,w₂,hq₂,.of_steps (.head step_loop harr) harr₂⟩
 | exit id=>exact⟨_,a₁,w₁,hq,.of_steps (.one step_loop) (.pass (x:= .inLoop c) rfl (fun _ _=> .inl (by simp)) harr)⟩
 | goto l=>exact⟨_,a₁,w₁,hq,.of_steps (.one step_loop) (.pass (x:= .inLoop c) rfl (fun _ _=> .inl (by simp)) harr)⟩
 | ret=>exact⟨_,a₁,w₁,hq,.of_steps (.one step_loop) (.pass (x:= .inLoop c) rfl (fun _ _=> .inl (by simp)) harr)⟩
 | panic ch=>exact⟨_,a₁,w₁,hq,.of_steps (.one step_loop) (.pass (x:= .inLoop c) rfl (fun _ _=> .inl (by simp)) harr)⟩
 | outgrown=>exact⟨_,a₁,w₁,hq,.of_steps (.one step_loop) (.pass (x:= .inLoop c) rfl (fun _ _=> .inl (by simp)) harr)⟩
theorem Bh {c:Code} {Q':Exit→Act→World→Prop} (h:c.wp P (Exit.then (pa P c Q') Q') a w):pa P c Q' a w:=by
 intro b k cs;obtain⟨e,a₁,w₁,hq,harr⟩:=h b (.inLoop c::k) cs;cases e with
 | normal=>
   obtain⟨e₂,a₂,w₂,hq₂,harr₂⟩:=hq b k cs;exact⟨e₂,a₂,w₂,hq₂,.of_steps (.head step_inLoop harr) harr₂⟩
 | exit id=>exact⟨_,a₁,w₁,hq,.of_steps (.one step_inLoop) (.pass (x:= .inLoop c) rfl (fun _ _=> .inl (by simp)) harr)⟩
 | goto l=>exact⟨_,a₁,w₁,hq,.of_steps (.one step_inLoop) (.pass (x:= .inLoop c) rfl (fun _ _=> .inl (by simp)) harr)⟩
 | ret=>exact⟨_,a₁,w₁,hq,.of_steps (.one step_inLoop) (.pass (x:= .inLoop c) rfl (fun _ _=> .inl (by simp)) harr)⟩
 | panic ch=>exact⟨_,a₁,w₁,hq,.of_steps (.one step_inLoop) (.pass (x:= .inLoop c) rfl (fun _ _=> .inl (by simp)) harr)⟩
 | outgrown=>exact⟨_,a₁,w₁,hq,.of_steps (.one step_inLoop) (.pass (x:= .inLoop c) rfl (fun _ _=> .inl (by simp)) harr)⟩
end
end Go.Proofs.YtmapddgocpkgeaaGreat.aa
namespace Go.Proofs.YtmapddgocpkgeaaGreat.aa
open Go.RowKit
set_option linter.unusedVariables false
set_option linter.unusedSimpArgs false
variable {P:Program} {C:Ctx}
theorem B7 {o:Oper} {a:Act} {w:World} {K:Act→World→Prop} {Q:Exit→Act→World→Prop} (h:Oper.wp P o a w K Q):
 Oper.wp P o a w (fun a' w'=>K a' w'∧∃v ds,a'=({a with defers:=ds}:Act).put o.dst v) Q:=by
 unfold Oper.wp at*;generalize (execOp a.eval o).run P w=r at*;cases r with
 | ok n w'=>
   cases n<;>simp only[Oper.upon]at h⊢
   case value u=>exact⟨h,u,a.defers,rfl⟩
   case skip=>exact⟨h,undef,a.defers,rfl⟩
   case defer d=>exact⟨h,undef,d::a.defers,rfl⟩
   case enter f args=>
    refine Calls.mono h fun e w'' he=> ?_;cases e with
    | returned u=>exact⟨he,u,a.defers,rfl⟩
    | panicked c=>exact he
    | outgrown=>exact he
   case row row args=>exact Rows.mono h fun u w'' he=>⟨he,u,a.defers,rfl⟩
 | halt x w'=>
   cases x<;>simp only[Oper.upon]at h⊢
   all_goals exact h
def still (w:World):fK:=⟨w,fun _=>False,fun b=>b<w.heap.size⟩
section
variable {B:fK} {n:Nat} {Vo:Nat→Value} {S:St C} {a:Act} {w:World}
theorem xh {V:Nat→Value} {N:Nat→Prop} {bs:ao→Nat→Prop} (h:Rel C B S V w N bs) {rs:List ao} {b:Nat} (hb:behind S N bs rs b):b<w.heap.size:=by
 rcases hb with hb | ⟨r,_,_,hb⟩
 ·exact(h.kd b hb).1
 ·exact(h.own r b hb).2.1
theorem yT {v v':C.PV} (h:fX C S v=some v'):aQ v'=true:=by
 unfold fX at h;split at h
 ·cases h;rfl
 ·split at h
  ·cases h;rfl
  ·cases h;rfl
  ·cases h
 ·split at h
  ·split at h
   ·split at h
    ·cases h;rfl
    ·cases h
   ·cases h
  ·cases h
 ·cases h;rfl
 ·cases h;rfl
 ·cases h;rfl
 ·cases h;rfl
 ·cases h
theorem pR {v:C.PV} (hv:∀ls,v≠ .agg ls):read C S v=fX C S v:=by
 cases v<;>first | rfl | exact absurd rfl (hv _)
theorem zT {v v':C.PV} (h:read C S v=some v') (hl:aQ v'=false):∃ls ls',v= .agg ls∧v'= .agg ls':=by
 by_cases hv:∃ls,v= .agg ls
 ·obtain⟨ls,rfl⟩:=hv;simp only[read]at h;split at h
  ·cases h;exact⟨_,_,rfl,rfl⟩
  ·cases h
 ·rw[pR (fun ls e=>hv ⟨ls,e⟩)]at h;rw[yT h]at hl;cases hl
theorem Holds.view (h:Holds C B n Vo S a w) (o:Oper):Holds C (still w) n Vo (ly C S o) a w:=by
 obtain⟨V,N,bs,hR,ha,hV⟩:=h;refine⟨V,fun b=>b<w.heap.size,fun _ _=>False,⟨fun t v hv=> ?_,fun _ _ _ h=>h.elim,fun _ _ h=>h.elim,fun b hb=>⟨hb,.inl hb⟩,⟨rfl,rfl,rfl,Nat.le_refl _,fun _ _ _=>rfl⟩⟩,ha,hV⟩;unfold ly at hv;rw[List.getElem?_map]at hv;cases ht:(List.range S.length)[t]? with
 | none=>rw[ht]at hv;cases hv
 | some t'=>
   have htl:t<S.length∧t'=t:=by
    have h1:=(List.getElem?_eq_some_iff.1 ht);obtain⟨h2,h3⟩:=h1;simp at h2 h3;exact⟨h2,h3.symm⟩
   obtain⟨hlt,rfl⟩:=htl;rw[ht]at hv;simp only[Option.map_some,Option.some.injEq]at hv;split at hv
   ·cases hr:read C S (get S t')with
    | none=>rw[hr]at hv;subst hv;trivial
    | some v'=>
      rw[hr]at hv;have hv:v'=v:=hv;subst hv
      have hg:S[t']? =some (get S t'):=by
       unfold get;rw[List.getD_eq_getElem?_getD,List.getElem?_eq_getElem hlt];rfl
      obtain⟨h1,h2⟩:=mT hR (some t') (get S t') v' (V t') (hR.fo t' _ hg) (fun p b hb=>⟨t',rfl,rfl,hb⟩) hr;cases hl:aQ v' with
      | true=>exact aR.gJ (((h2 hl).mono (fun _ _=>rfl) (fun b hb=>xh hR hb)).rep _)
      | false=>
        obtain⟨ls,ls',hS,rfl⟩:=zT hr hl;have hrep:=hR.fo t' _ hg;rw[hS]at hrep;obtain⟨cs,hc,hcl,hci⟩:=hrep;rw[hc]at h1⊢;exact⟨cs,rfl,h1.1,fun i x hx=>let⟨u,h3,h4⟩:=h1.2 i x hx;⟨u,h3,(h4.mono (fun _ _=>rfl) (fun b hb=>xh hR hb)).rep _⟩⟩
   ·subst hv;trivial
theorem fk.DW (G:Good P C) {w:World} {N N2 Bo:Nat→Prop} {e:TypeId} {xs:List (C.U.T e)} {c:Value} (hd:gp C e=false) (h:fk C w N Bo true e xs c):fk C w N2 Bo true e xs c:=by
 rcases h with h | ⟨b,cap,cur,lab,hc,hb,hl,hh,h1,h2,h3,h4⟩
 ·exact .inl h
 ·refine .inr ⟨b,cap,cur,lab,hc,hb,hl,hh,h1,h2,h3,fun j x hx i v hi=> ?_⟩;obtain⟨u,h5,h6⟩:=h4 j x hx i v hi;refine⟨u,h5,?_⟩;have hv:=List.mem_of_getElem? hi;rcases G.kE e x v hv with⟨k,m,rfl⟩ | ⟨b',rfl⟩ | ⟨s,rfl⟩ | ⟨f,ys,rfl⟩
  ·have h7:gC C w N (.int k m) u:=h6;cases h7;exact gC.int _ _
  ·have h7:gC C w N (.bool b') u:=h6;cases h7;exact gC.bool _
  ·have h7:gC C w N (.str s) u:=h6;cases h7;exact gC.str _
  ·exact absurd rfl (G.jg e hd x _ hv f ys)
theorem Am (G:Good P C) {r:C.PV} (hr:mB C r=true) {A A':ao→Value→Prop} {X X':Nat→Nat→Prop} {w:World} {N N2:Nat→Prop} {bs bs':List Nat→Nat→Prop} {v:Value} (h:aR C A X w N bs r v) (hb:∀p b,bs p b→bs' p b):aR C A' X' w N2 bs' r v:=by
 cases r with
 | int k m=>exact h
 | bool b=>exact h
 | str s=>exact h
 | own dp e xs=>
   cases dp with
   | false=>cases hr
   | true=>
     have hd:gp C e=false:=by simpa [mB]using hr
     have h1:fk C w N (bs []) true e xs v:=h;exact(fk.DW (N2:=N2) G hd h1).move (fun _ _=>rfl) (fun _ h=>h) (fun b hb'=>hb [] b hb')
 | _=>cases hr
theorem Holds.merge (G:Good P C) (h:Holds C B n Vo S a w) {d:Nat} (hd:d<n) {S':St C} {v:Value} {ds:List Deferred} {w':World} (h':Holds C (still w) n Vo S' (({a with defers:=ds}:Act).put (some d) v) w') (hnew:mB C (get S' d)=true):
 Holds C B n Vo ((clear S d).set d (get S' d)) (({a with defers:=ds}:Act).put (some d) v) w':=by
 obtain⟨V,N,bs,hR,ha,hV⟩:=h;obtain⟨V',N',bs',hR',ha',hV'⟩:=h';have hds:ds=[]:=ha'.defers;subst hds;have ha0:lQ n V ({a with defers:=[]}:Act):=⟨ha.size,ha.tmp,rfl⟩;have hag:∀b,b<w.heap.size→w'.heap[b]? =w.heap[b]? :=fun b hb=>hR'.kept.block b hb (fun h=>h);have hk:Kept B w':=⟨hR'.kept.os.trans hR.kept.os,hR'.kept.tape.trans hR.kept.tape,hR'.kept.output.trans hR.kept.output,Nat.le_trans hR.kept.size hR'.kept.size,fun b hb hm=>(hag b (Nat.lt_of_lt_of_le hb hR.kept.size)).trans (hR.kept.block b hb hm)⟩;have h2:Rel C B S V w' N bs:=hR.world hag hR'.kept.size hk
 have hVd:V' d=v:=by
  have h3:=ha'.tmp d hd;have h4:=(ha0.put hd v).tmp d hd;rw[h3,fp]at h4;exact Option.some.inj h4
 have hgd:S'[d]? =some (get S' d):=iz rfl (fun e=>by rw[e]at hnew;cases hnew);have hr:=hR'.fo d _ hgd;rw[hVd]at hr
 have hown:∀p b,bs' (d,p) b→¬N b∧b<w'.heap.size∧(B.M b∨B.w.heap.size≤b):=fun p b hb=>by
  obtain⟨k1,k2,k3⟩:=hR'.own _ b hb;have k4:w.heap.size≤b:=k3.elim (fun h=>h.elim) id;exact⟨fun hn=>absurd (hR.kd b hn).1 (by omega),k2,.inr (Nat.le_trans hR.kept.size k4)⟩
 have hno:∀p q b,bs' (d,p) b→¬bs q b:=fun p q b hb hq=>by
  obtain⟨_,_,k3⟩:=hR'.own _ b hb;have k4:w.heap.size≤b:=k3.elim (fun h=>h.elim) id;have:=(hR.own q b hq).2.1;omega
 have h3:=h2.clear d (gZ V d v);have hg:=lk S d
 have hu:∀q:ao,q.1=d→look (clear S d) q= .undef:=fun q hq=>by
  unfold look;rw[hq,hg];exact gf _
 have h4:Rel C B (clear S d) (jJ V d v) w' N (fun q b=>(q.1=d∧bs' (d,q.2) b)∨(q.1≠d∧bs q b)):=by
  refine eH.zJ h3 (fun q=> ?_) (fun _ h=>h) (fun q q' b hb hb'=> ?_) (fun q b hb=> ?_) h3.kd
  ·by_cases hq:q.1=d
   ·right
    rw[hu q hq];exact⟨rfl,fun _ _ _ e=>by cases e⟩
   ·left
    funext b;exact propext ⟨fun hb=>hb.elim (fun hb=>absurd hb.1 hq) (fun hb=>hb.2),fun hb=> .inr ⟨hq,hb⟩⟩
  ·rcases hb with⟨e1,hb⟩ | ⟨e1,hb⟩
   ·rcases hb' with⟨e2,hb'⟩ | ⟨e2,hb'⟩
    ·have:=congrArg Prod.snd (hR'.km _ _ b hb hb');exact Prod.ext (e1.trans e2.symm) this
    ·exact(hno _ _ b hb hb').elim
   ·rcases hb' with⟨e2,hb'⟩ | ⟨e2,hb'⟩
    ·exact(hno _ _ b hb' hb).elim
    ·exact h3.km q q' b hb hb'
  ·rcases hb with⟨_,hb⟩ | ⟨_,hb⟩
   ·exact hown _ b hb
   ·exact h3.own q b hb
 have h5:=h4.fill d (get S' d) hg (by
  rw[fp];exact Am G hnew hr (fun p b hb=> .inl ⟨rfl,hb⟩))
 exact⟨jJ V d v,N,_,h5,ha0.put hd v,fun t ht=>by rw[gZ V d v t (by omega)];exact hV t ht⟩
theorem Holds.agree {S:St C} {a:Act} {w':World} (h:Holds C (still w) n Vo S a w'):gE w w':=by
 obtain⟨V,N,bs,hR,_,_⟩:=h;exact fun b hb=>hR.kept.block b hb (fun h=>h)
theorem wJ {Q:bE C} {K:iR C} {o:Oper} {f:Operand} {xs:List Operand} (hc:gx o.op=some (f,xs)) {d:Nat} (hd:o.dst=some d) {g:FuncId} (hf:ev C S 0 f= .fn g []) {k:St C→Prop}
 (he:oU C Q K g (xs.map fun x=>(bG x,ev C S 0 x)) (some d) S k):mO C Q K o S k:=by
 have hop:∃c,o.op= .call c∧c.callee= .value f∧xs=c.args.toList:=by
  unfold gx at hc;split at hc
  ·rename_i c hop;split at hc
   ·rename_i f' hcal;cases hc;exact⟨c,hop,hcal,rfl⟩
   ·cases hc
  ·cases hc
 obtain⟨c,ho,hcal,rfl⟩:=hop;have hp:ug o.op=none:=by rw[ho];rfl
 have hnil:oT o.op=none:=by rw[ho];rfl
 have hno:sj C S o=none:=by
  unfold sj;rw[ho];simp only[hcal]
 have hna:∀S',pg C S' o.op=none:=fun S'=>by rw[ho];rfl
 unfold mO;rw[hd,hno];simp only;unfold pU;rw[hnil];simp only;unfold AY;rw[hd];simp only[hna];unfold pZ;rw[hp,hc,hd];simp only[hf,List.map_nil,List.append_nil];exact he
theorem BA (G:Good P C) (Q:bE C) (K:iR C) (h:Holds C B n Vo S a w) {o:Oper} {d:Nat} (hod:o.dst=some d) (hok:jU n o) {Q':Exit→Act→World→Prop} (hcall:(gx o.op).isSome=true→kL P C (still w) n Vo Q K Q' o) {v:C.PV} (hv:mB C v=true) {S1:St C} (hS1:get S1 d=v)
 (he:pP C Q K o (ly C S o) (fun S'=>S'=S1)):Oper.wp P o a w (fun a' w'=>gE w w'∧Holds C B n Vo ((clear S d).set d v) a' w') Q':=by
 have hd:d<n:=hok.2 d hod;have hview:=h.view o;unfold pP at he;rw[hod]at he;cases hc:gx o.op with
 | none=>
   rw[hc]at he;simp only at he;unfold pB at he;split at he
   ·rename_i p S' hev;obtain⟨hp,hg⟩:=pj he;subst hg;have hg:=hS1;obtain⟨v0,w',hr,h1⟩:=hview.nS G hok.1 hd hev hp;unfold Oper.wp;rw[hr,Oper.upon_value,hod];have h2:=h.merge G hd (ds:=a.defers) (v:=v0) h1 (by rw[hg];exact hv);rw[hg]at h2;exact⟨h1.agree,h2⟩
   ·exact he.elim
 | some fx=>
   obtain⟨f,xs⟩:=fx;rw[hc]at he;simp only at he;split at he
   ·rename_i g hf;have h1:=hcall (by rw[hc];rfl) _ a w _ (fun a' w'=>∃S',S'=S1∧Holds C (still w) n Vo S' a' w') hview (wJ hc hod hf he) (fun S' a' w' hk hh _=>⟨S',hk,hh⟩);refine Oper.wp_mono (fun a' w' ⟨⟨S',hg,hh⟩,v0,ds,ha'⟩=> ?_) (B7 h1);subst ha';subst hg;have hg:=hS1;rw[hod]at hh⊢;have h2:=h.merge G hd (ds:=ds) (v:=v0) hh (by rw[hg];exact hv);rw[hg]at h2;exact⟨hh.agree,h2⟩
   ·exact he.elim
def nD:St C→List (Nat×C.PV)→St C
 | S,[]=>S
 | S,(d,v)::vs=>nD (S.set d v) vs
theorem jL:∀(vals:List (Nat×C.PV)) (S:St C),(nD S vals).length=S.length
 | [],S=>rfl
 | (d,v)::vs,S=>by
   show(nD (S.set d v) vs).length=_;rw[jL vs];simp
theorem mS {t:Nat}:∀(vals:List (Nat×C.PV)) (S:St C),(∀v,(t,v) ∉ vals)→(nD S vals)[t]? =S[t]?
 | [],S,_=>rfl
 | (d,v)::vs,S,h=>by
   show(nD (S.set d v) vs)[t]? =_;rw[mS vs _ (fun u hu=>h u (List.mem_cons_of_mem _ hu)),List.getElem?_set];have hdt:d≠t:=fun e=>h v (by rw[e];exact List.mem_cons_self);rw[if_neg hdt]
theorem oE {t:Nat} {v:C.PV}:∀(vals:List (Nat×C.PV)) (S:St C),(vals.map (·.1)).Nodup→(t,v)∈vals→t<S.length→(nD S vals)[t]? =some v
 | [],S,_,h,_=>by cases h
 | (d,u)::vs,S,hn,h,ht=>by
   rw[List.map_cons,List.nodup_cons]at hn;show(nD (S.set d u) vs)[t]? =_;rcases List.mem_cons.1 h with h | h
   ·cases h;rw[mS vs _ (fun w hw=>hn.1 (List.mem_map.2 ⟨_,hw,rfl⟩)),List.getElem?_set,if_pos rfl,if_pos ht]
   ·exact oE vs _ hn.2 h (by simpa using ht)
theorem Bm {vals vals':List (Nat×C.PV)} {S:St C} (h1:(vals.map (·.1)).Nodup) (h2:(vals'.map (·.1)).Nodup) (h:∀p,p∈vals↔p∈vals'):nD S vals=nD S vals':=by
 apply List.ext_getElem?;intro t
 by_cases ht:t<S.length
 ·by_cases hm:∃v,(t,v)∈vals
  ·obtain⟨v,hm⟩:=hm;rw[oE vals S h1 hm ht,oE vals' S h2 ((h _).1 hm) ht]
  ·rw[mS vals S (fun v hv=>hm ⟨v,hv⟩),mS vals' S (fun v hv=>hm ⟨v,(h _).2 hv⟩)]
 ·rw[List.getElem?_eq_none (by rw[jL];omega),List.getElem?_eq_none (by rw[jL];omega)]
theorem fI {ds:List Nat} {d:Nat} (hd:d∈ds) {v:C.PV} (h:ou C ds v=false):forget (fun r=>r.1==d) (fun t=>t==d) v=v:=by
 have key:∀q:Nat,ds.contains q=false→(q==d)=false:=fun q hq=>by
  cases he:q==d with
  | false=>rfl
  | true=>
    have:q=d:=by simpa using he
    subst this;rw[List.contains_iff_mem.2 hd]at hq;cases hq
 cases v with
 | iV r=>exact if_neg (by show¬(r.1==d)=true;rw[key _ h];exact Bool.false_ne_true)
 | nR r e i o=>exact if_neg (by show¬(r.1==d)=true;rw[key _ h];exact Bool.false_ne_true)
 | vw r e i o=>exact if_neg (by show¬(r.1==d)=true;rw[key _ h];exact Bool.false_ne_true)
 | kB r e i o=>exact if_neg (by show¬(r.1==d)=true;rw[key _ h];exact Bool.false_ne_true)
 | ptr t o=>exact if_neg (by show¬(t==d)=true;rw[key _ h];exact Bool.false_ne_true)
 | fn f caps=>
   refine if_neg (fun hc=> ?_);obtain⟨x,hx,hb⟩:=List.any_eq_true.1 hc;have h1:=List.any_eq_false.1 h x hx;cases x with
   | ptr t o=>
     have:t=d:=by simpa using hb
     subst this;exact h1 (List.contains_iff_mem.2 hd)
   | _=>cases hb
 | _=>rfl
theorem mK {α:Type} {f:α→α}:∀{l:List α},(∀x∈l,f x=x)→l.map f=l
 | [],_=>rfl
 | x::l,h=>by rw[List.map_cons,h x List.mem_cons_self,mK (fun y hy=>h y (List.mem_cons_of_mem _ hy))]
theorem xA {ds:List Nat} {d:Nat} (hd:d∈ds) {v:C.PV} (h:names C ds v=false):hZ (forget (fun r=>r.1==d) (fun t=>t==d)) v=v:=by
 cases v with
 | agg ls=>exact congrArg PV.agg (mK fun x hx=>fI hd (by simpa using List.any_eq_false.1 h x hx))
 | box ls=>exact congrArg PV.box (mK fun x hx=>fI hd (by simpa using List.any_eq_false.1 h x hx))
 | gG vs=>
   refine congrArg PV.gG (mK fun x hx=> ?_);have h1:=List.any_eq_false.1 h x hx;cases x with
   | agg ls=>exact congrArg PV.agg (mK fun y hy=>fI hd (by simpa using List.any_eq_false.1 (by simpa using h1) y hy))
   | iV r=>exact fI (v:= .iV r) hd (by simpa using h1)
   | nR r e i o=>exact fI (v:= .nR r e i o) hd (by simpa using h1)
   | vw r e i o=>exact fI (v:= .vw r e i o) hd (by simpa using h1)
   | kB r e i o=>exact fI (v:= .kB r e i o) hd (by simpa using h1)
   | ptr t o=>exact fI (v:= .ptr t o) hd (by simpa using h1)
   | fn f caps=>exact fI (v:= .fn f caps) hd (by simpa using h1)
   | _=>rfl
 | iV r=>exact fI (v:= .iV r) hd h
 | nR r e i o=>exact fI (v:= .nR r e i o) hd h
 | vw r e i o=>exact fI (v:= .vw r e i o) hd h
 | kB r e i o=>exact fI (v:= .kB r e i o) hd h
 | ptr t o=>exact fI (v:= .ptr t o) hd h
 | fn f caps=>exact fI (v:= .fn f caps) hd h
 | _=>rfl
theorem Ay {ds:List Nat} {d:Nat} (hd:d∈ds) {S:St C} (h:S.any (names C ds)=false):clear S d=S.set d .undef:=by
 unfold clear dK;rw[mK fun v hv=>xA hd (by simpa using List.any_eq_false.1 h v hv)]
theorem yN {v:C.PV} (h:mB C v=true) (ds:List Nat):names C ds v=false:=by
 cases v<;>first | rfl | cases h
theorem Bk {ds:List Nat} {S:St C} (h:S.any (names C ds)=false) {v:C.PV} (hv:names C ds v=false) (d:Nat):(S.set d v).any (names C ds)=false:=by
 rw[List.any_eq_false]at h⊢;intro x hx;rcases List.mem_or_eq_of_mem_set hx with hx | rfl
 ·exact h x hx
 ·rw[hv];simp
theorem oR {ds:List Nat}:∀(vals:List (Nat×C.PV)) (S:St C),S.any (names C ds)=false→(∀p∈vals,p.1∈ds∧mB C p.2=true)→lay C S vals=nD S vals∧(lay C S vals).any (names C ds)=false
 | [],S,h,_=>⟨rfl,h⟩
 | (d,v)::vs,S,h,hv=>by
   obtain⟨h1,h2⟩:=hv _ List.mem_cons_self;have e:(clear S d).set d v=S.set d v:=by rw[Ay h1 h,List.set_set]
   show lay C ((clear S d).set d v) vs=nD (S.set d v) vs∧(lay C ((clear S d).set d v) vs).any _=false;rw[e];exact oR vs _ (Bk h (yN h2 ds) d) (fun p hp=>hv p (List.mem_cons_of_mem _ hp))
theorem xa {ds:List Nat} {X Y:St C} (hXY:∀t,t ∉ ds→get X t=get Y t) {r:ao} (hr:ds.contains r.1=false):look X r=look Y r:=by
 unfold look;rw[hXY r.1 (fun h=>by rw[List.contains_iff_mem.2 h]at hr;cases hr)]
theorem qw {ds:List Nat} {X Y:St C} (hXY:∀t,t ∉ ds→get X t=get Y t) {v:C.PV} (h:ou C ds v=false):fX C X v=fX C Y v:=by
 cases v with
 | iV r=>simp only[fX,xa hXY (show ds.contains r.1=false from h)]
 | kB r e i o=>simp only[fX,xa hXY (show ds.contains r.1=false from h)]
 | _=>rfl
theorem qT {ds:List Nat} {X Y:St C} (hXY:∀t,t ∉ ds→get X t=get Y t):∀{ls:List C.PV},ls.any (ou C ds)=false→readAll C X ls=readAll C Y ls
 | [],_=>rfl
 | v::ls,h=>by
   simp only[List.any_cons,Bool.or_eq_false_iff]at h;unfold readAll;rw[qw hXY h.1,qT hXY h.2]
theorem BD {ds:List Nat} {X Y:St C} (hXY:∀t,t ∉ ds→get X t=get Y t) {v:C.PV} (h:names C ds v=false):read C X v=read C Y v:=by
 by_cases hv:∃ls,v= .agg ls
 ·obtain⟨ls,rfl⟩:=hv;simp only[read];rw[qT hXY h]
 ·rw[pR (fun ls e=>hv ⟨ls,e⟩),pR (fun ls e=>hv ⟨ls,e⟩)];cases v with
  | agg ls=>exact absurd ⟨ls,rfl⟩ hv
  | iV r=>exact qw (v:= .iV r) hXY h
  | kB r e i o=>exact qw (v:= .kB r e i o) hXY h
  | _=>rfl
theorem Bz {ds:List Nat} {S:St C} (hS:S.any (names C ds)=false) {vals vals':List (Nat×C.PV)} (h1:∀p∈vals,p.1∈ds∧mB C p.2=true) (h2:∀p∈vals',p.1∈ds∧mB C p.2=true) (n1:(vals.map (·.1)).Nodup) (n2:(vals'.map (·.1)).Nodup) {o:Oper}
 (ho:∀t,o.op.operands.toList.any (Cj t)=true→t∈ds→∃v,(t,v)∈vals∧(t,v)∈vals'):ly C (lay C S vals) o=ly C (lay C S vals') o:=by
 obtain⟨e1,u1⟩:=oR vals S hS h1;obtain⟨e2,u2⟩:=oR vals' S hS h2;rw[e1]at u1⊢;rw[e2]at u2⊢;have gt:∀(X:St C) t,get X t=X[t]?.getD .undef:=fun X t=>by unfold get;exact List.getD_eq_getElem?_getD
 have hXY:∀t,t ∉ ds→get (nD S vals) t=get (nD S vals') t:=fun t ht=>by
  rw[gt,gt,mS vals S (fun v hv=>ht (h1 _ hv).1),mS vals' S (fun v hv=>ht (h2 _ hv).1)]
 unfold ly;rw[jL,jL];refine List.map_congr_left fun t ht=> ?_;have htl:t<S.length:=by simpa using ht
 split
 ·rename_i hu
  have hg:get (nD S vals) t=get (nD S vals') t:=by
   by_cases hd:t∈ds
   ·obtain⟨v,m1,m2⟩:=ho t hu hd;rw[gt,gt,oE vals S n1 m1 htl,oE vals' S n2 m2 htl]
   ·exact hXY t hd
  have hn:names C ds (get (nD S vals) t)=false:=by
   have hlt:t<(nD S vals).length:=by rw[jL];exact htl
   have:get (nD S vals) t=(nD S vals)[t]:=by rw[gt,List.getElem?_eq_getElem hlt];rfl
   rw[this]
   simpa using List.any_eq_false.1 u1 _ (List.getElem_mem hlt)
  rw[←hg,BD hXY hn]
 ·rfl
theorem yQ {Q:bE C} {K:iR C} {g:FuncId} {vs:List (Option Nat×C.PV)} {dst:Option Nat} {k:St C→Prop} {S:St C} (h:oU C Q K g vs dst S k):∃S',k S'∧oU C Q K g vs dst S (fun S1=>S1=S'):=by
 unfold oU at h;split at h
 ·rename_i av os0 R h1 h2;split at h
  ·rename_i bs os h3;split at h
   ·rename_i h4;obtain⟨a,hK,hb⟩:=h;unfold xE at hb;split at hb
    ·rename_i hp;split at hb
     ·rename_i S2 ho;refine⟨_,hb,?_⟩;unfold oU;simp only[h1,h2,h3];rw[if_pos h4];refine⟨a,hK,?_⟩;unfold xE;rw[if_pos hp];simp only[ho]
     ·exact hb.elim
    ·exact hb.elim
   ·exact h.elim
  ·exact h.elim
 ·exact h.elim
theorem zP {Q:bE C} {K:iR C} {o:Oper} {k:St C→Prop} {S:St C} (h:pP C Q K o S k):∃S',k S'∧pP C Q K o S (fun S1=>S1=S'):=by
 unfold pP at h;split at h
 ·rename_i f xs d h1 h2;split at h
  ·rename_i g hf;obtain⟨S',hk,hc⟩:=yQ h;refine⟨S',hk,?_⟩;unfold pP;simp only[h1,h2,hf];exact hc
  ·exact h.elim
 ·rename_i d h1 h2;unfold pB at h;split at h
  ·rename_i p S' he;refine⟨S',(pj h).2,?_⟩;unfold pP;simp only[h1,h2];unfold pB;simp only[he];cases p with
   | none=>exact trivial
   | some p=>exact⟨h.1,trivial⟩
  ·exact h.elim
 ·exact h.elim
def wQ (Q:bE C) (K:iR C) (all:Array Oper) (S0:St C):List (Nat×Nat×C.PV)→List (Nat×C.PV)→Prop
 | [],_=>True
 | (i,d,v)::rs,vals=>(∃o S1,all[i]? =some o∧o.dst=some d∧mB C v=true∧get S1 d=v∧pP C Q K o (ly C (lay C S0 vals) o) (fun S'=>S'=S1))∧wQ Q K all S0 rs (vals++[(d,v)])
theorem ve {Q:bE C} {K:iR C} {all:Array Oper} {S0:St C} {k:St C→Prop}:∀(is:List Nat) (vals:List (Nat×C.PV)),q9 C Q K all S0 is vals k→
 ∃rs:List (Nat×Nat×C.PV),rs.map (·.1)=is∧wQ Q K all S0 rs vals∧k (lay C S0 (vals++rs.map (·.2)))
 | [],vals,h=>⟨[],rfl,trivial,by unfold q9 at h;simpa using h⟩
 | i::is,vals,h=>by
   unfold q9 at h;split at h
   ·rename_i o ho;split at h
    ·rename_i d hd;obtain⟨S1,⟨h1,h2⟩,h3⟩:=zP h;obtain⟨rs,e,hT,hk⟩:=ve is _ h2;exact⟨(i,d,get S1 d)::rs,by rw[List.map_cons,e],⟨⟨o,S1,ho,hd,h1,rfl,h3⟩,hT⟩,by simpa using hk⟩
    ·exact h.elim
   ·exact h.elim
end
end Go.Proofs.YtmapddgocpkgeaaGreat.aa
namespace Go.Proofs.YtmapddgocpkgeaaGreat.aa
open Go.RowKit
set_option linter.unusedVariables false
set_option linter.unusedSimpArgs false
variable {P:Program} {C:Ctx}
def lK (ops:Array Oper) (i:Nat):List Nat:=match ops[i]? with
 | some o=>(o.after.toList.filter fun e=>Region.binds .any e).map (·.on)
 | none=>[]
def Cm (ops:Array Oper) (i t:Nat):Bool:=((ops[i]?).bind (·.dst))==some t
def rf (ops:Array Oper) (L:Array Bool) (ds:List Nat):List Nat→List Nat→Bool
 | _,[]=>true
 | pre,i::is=>(match ops[i]? with
   | some o=>o.guard.isNone&&((lK ops i).all fun j=>L.getD j false || pre.contains j)&&o.op.operands.toList.all fun | .tmp t=> !ds.contains t || pre.any (fun j=>Cm ops j t&&(lK ops i).contains j) | _=>true
   | none=>false)&&(!pre.contains i&& !L.getD i true&& !(pre.any fun j=>((ops[i]?).bind (·.dst))==((ops[j]?).bind (·.dst))))&&rf ops L ds (pre++[i]) is
def cover (ops:Array Oper):List Nat→List Nat→Bool
 | _,[]=>true
 | cov,i::is=>cov.contains i&&cover ops (cov++lK ops i) is
def xS (ops:Array Oper) (L:Array Bool) (is:List Nat):Bool:=
 rf ops L (Ct ops is) [] is&&(List.range ops.size).all fun j=>L.getD j false || is.contains j || cover ops (lK ops j) is.reverse
theorem rm {ops:Array Oper} {i j:Nat}:j∈lK ops i↔∃o,ops[i]? =some o∧∃e∈o.after,Region.binds .any e=true∧e.on=j:=by
 unfold lK;cases h:ops[i]? with
 | none=>simp
 | some o=>simp[and_assoc]
theorem vF {ops:Array Oper} {L:Array Bool} {I:List Nat} (hcl:∀i∈I,L.getD i false=true→∀j∈lK ops i,L.getD j false=true):∀(is cov:List Nat),(∀i∈is,i∈I)→(∀j∈cov,L.getD j false=true)→cover ops cov is=true→∀i∈is,L.getD i false=true
 | [],_,_,_,_,i,hi=>by cases hi
 | i::is,cov,hI,hc,h,k,hk=>by
   simp only[cover,Bool.and_eq_true,List.contains_iff_mem]at h;have hi:=hc i h.1;rcases List.mem_cons.1 hk with rfl | hk
   ·exact hi
   ·refine vF hcl is _ (fun j hj=>hI j (List.mem_cons_of_mem _ hj)) (fun j hj=> ?_) h.2 k hk;rcases List.mem_append.1 hj with hj | hj
    ·exact hc j hj
    ·exact hcl i (hI i List.mem_cons_self) hi j hj
theorem jO {ops:Array Oper} {L:Array Bool} {ds:List Nat}:∀(is pre:List Nat),rf ops L ds pre is=true→∀(m i:Nat),is[m]? =some i→
 ∃o,ops[i]? =some o∧o.guard=none∧(∀j∈lK ops i,L.getD j false=true∨j∈pre++is.take m)∧(∀t,Operand.tmp t∈o.op.operands.toList→t∈ds→∃j∈pre++is.take m,(ops[j]?).bind (·.dst)=some t∧j∈lK ops i)∧i ∉ pre++is.take m∧L.getD i true=false∧∀j∈pre++is.take m,(ops[i]?).bind (·.dst)≠(ops[j]?).bind (·.dst)
 | [],_,_,m,i,hi=>by simp at hi
 | k::is,pre,h,m,i,hi=>by
   unfold rf at h;simp only[Bool.and_eq_true]at h;obtain⟨⟨h1,h2⟩,h3⟩:=h;cases m with
   | zero=>
     simp only[List.getElem?_cons_zero,Option.some.injEq]at hi;subst hi;split at h1
     ·rename_i o ho;simp only[Bool.and_eq_true,List.all_eq_true,Bool.or_eq_true,List.contains_iff_mem,Option.isNone_iff_eq_none]at h1;obtain⟨⟨h4,h5⟩,h6⟩:=h1;simp only[Bool.not_eq_true',List.contains_eq_mem,decide_eq_false_iff_not]at h2;refine⟨o,ho,h4,fun j hj=>by simpa using h5 j hj,fun t ht hd=> ?_,by simpa using h2.1.1,h2.1.2,fun j hj he=> ?_⟩
      ·have:=h6 _ ht;simp only[Bool.or_eq_true,Bool.not_eq_true',List.contains_eq_mem,decide_eq_false_iff_not,hd,not_true_eq_false,false_or,List.any_eq_true,Bool.and_eq_true,decide_eq_true_eq]at this;obtain⟨j,hj,hs,hdp⟩:=this;exact⟨j,by simpa using hj,by simpa [Cm]using hs,hdp⟩
      ·have:=List.any_eq_false.1 h2.2 j (by simpa using hj);exact this (by rw[he];simp)
     ·cases h1
   | succ m=>
     have:=jO is (pre++[k]) h3 m i (by simpa using hi)
     simpa [List.append_assoc]using this
theorem wQ.at {Q:bE C} {K:iR C} {all:Array Oper} {S0:St C}:∀(rs:List (Nat×Nat×C.PV)) (vals:List (Nat×C.PV)),wQ Q K all S0 rs vals→∀(m:Nat) (x:Nat×Nat×C.PV),rs[m]? =some x→
 ∃o S1,all[x.1]? =some o∧o.dst=some x.2.1∧mB C x.2.2=true∧get S1 x.2.1=x.2.2∧pP C Q K o (ly C (lay C S0 (vals++(rs.take m).map (·.2))) o) (fun S'=>S'=S1)
 | [],_,_,m,x,hx=>by simp at hx
 | (i,d,v)::rs,vals,h,m,x,hx=>by
   obtain⟨h1,h2⟩:=h;cases m with
   | zero=>
     simp only[List.getElem?_cons_zero,Option.some.injEq]at hx;subst hx
     simpa using h1
   | succ m=>
     have:=wQ.at rs _ h2 m x (by simpa using hx)
     simpa [List.append_assoc]using this
end Go.Proofs.YtmapddgocpkgeaaGreat.aa
namespace Go.Proofs.YtmapddgocpkgeaaGreat.aa
open Go.RowKit
set_option linter.unusedVariables false
set_option linter.unusedSimpArgs false
variable {P:Program} {C:Ctx}
section
variable {ops:Array Oper} {Q:Exit→Act→World→Prop} {md:Region.Mode} {brk:List Nat}
def kP (P:Program) (md:Region.Mode) (ops:Array Oper) (Q:Exit→Act→World→Prop) (brk:List Nat):Nat→Array Bool→Act→World→Prop
 | 0,L,a,w=>Region.ready md ops L=[]∧Q .normal a w
 | f+1,L,a,w=>(Region.ready md ops L=[]→Q .normal a w)∧∀i∈Region.ready md ops L,wpOp P ops Q i (fun a' w'=>(brk.contains i=false→gE w w')∧kP P md ops Q brk f (L.setIfInBounds i true) a' w') a w
theorem u7:∀(f:Nat) (L:Array Bool) (a:Act) (w:World),kP P md ops Q brk f L a w→wpAny P md ops Q f L a w
 | 0,_,_,_,h=>h
 | f+1,_,_,_,h=>⟨h.1,fun i hi=>wpOp_mono (fun a' w' h'=>u7 f _ a' w' h'.2) (h.2 i hi)⟩
def YieldsAt (P:Program) (ops:Array Oper) (o:Oper) (v:Value) (a:Act) (w:World):Prop:=
 (Region.wanted o (yielded ops a.tmps)=true∧(execOp a.eval o).run P w= .ok (.value v) w∧∀w1,nJ o w w1→(execOp a.eval o).run P w1= .ok (.value v) w1)∨
 (Region.wanted o (yielded ops a.tmps)=false∧v=undef)
theorem YieldsAt.wpOp {i:Nat} {o:Oper} {v:Value} {a:Act} {w:World} (hi:ops[i]? =some o) (hy:YieldsAt P ops o v a w) {K:Act→World→Prop} (h:K (a.put o.dst v) w):wpOp P ops Q i K a w:=by
 unfold Go.wpOp;simp only[hi];rcases hy with⟨hw,hv,_⟩ | ⟨hw,rfl⟩
 ·simp only[hw,if_true,Oper.wp,hv,Oper.upon];exact .inl h
 ·simp only[hw,Bool.false_eq_true,if_false];exact h
theorem YieldsAt.later {o:Oper} {v:Value} {a a':Act} {w w':World} (hy:YieldsAt P ops o v a w) (he:execOp a'.eval o=execOp a.eval o) (hw:Region.wanted o (yielded ops a'.tmps)=Region.wanted o (yielded ops a.tmps)) (hk:nJ o w w'):YieldsAt P ops o v a' w':=by
 unfold YieldsAt;rw[he,hw];rcases hy with⟨h1,h2,h3⟩ | h
 ·exact .inl ⟨h1,h3 w' hk,fun w1 h1=>h3 w1 (fun hl=>(hk hl).trans (h1 hl))⟩
 ·exact .inr h
structure Same (P:Program) (ops:Array Oper) (o:Oper) (a a':Act):Prop where
 exec:execOp a'.eval o=execOp a.eval o
 want:Region.wanted o (yielded ops a'.tmps)=Region.wanted o (yielded ops a.tmps)
theorem Cz {j:Nat} {oi oj:Oper} {v:Value} (hj:ops[j]? =some oj) (hap:oi.apart ops oj=true) (hsi:∀cs b,oi.op≠ .select cs b) (hsj:∀cs b,oj.op≠ .select cs b)
 (hQ:∀c a w,Q (.panic c) (a.put oi.dst v) w→Q (.panic c) a w) {K:Act→World→Prop} {a:Act} {w:World} (h:wpOp P ops Q j K (a.put oi.dst v) w):
 wpOp P ops Q j (fun a' w'=>Same P ops oi a a'∧K (a'.put oi.dst v) w') a w:=by
 obtain⟨h1,h2,h3⟩:=Oper.apart_spec hap;have keep:∀(a':Act),Same P ops oi a a'→∀u,Same P ops oi a (a'.put oj.dst u):=fun a' hy u=>⟨(execOp_put oi hsi a' oj.dst u h3).trans hy.1,(wanted_put oi a' oj.dst u h3).trans hy.2⟩;have same:Same P ops oi a a:=⟨rfl,rfl⟩;have keepD:∀d,Same P ops oi a ({a with defers:=d::a.defers}:Act):=fun d=>⟨rfl,rfl⟩;unfold wpOp at*;simp only[hj]at*;rw[wanted_put oj a oi.dst v h1]at h;split
 ·rename_i hw;simp only[hw,if_true]at h;rcases h with h | ⟨hasks,hlets⟩
  case inr=>exact .inr ⟨by unfold Oper.asks at*;rw[execOp_put oj hsj a oi.dst v h1]at hasks;exact hasks,hlets⟩
  refine .inl ?_;unfold Oper.wp at*;rw[execOp_put oj hsj a oi.dst v h1]at h;generalize (execOp a.eval oj).run P w=r at*;cases r with
  | ok n w'=>
    cases n<;>simp only[Oper.upon]at h⊢
    case value u=>exact⟨keep a same u,by rw[←Act.put_comm a v u h2];exact h⟩
    case skip=>exact⟨keep a same _,by rw[←Act.put_comm a v undef h2];exact h⟩
    case defer d=>
     refine⟨keep _ (keepD d) _,?_⟩;rw[←Act.put_comm _ v undef h2,←Act.put_defers];exact h
    case enter f args=>
     refine Calls.mono h fun e w'' he=> ?_;cases e with
     | returned u=>exact⟨keep a same u,by rw[←Act.put_comm a v u h2];exact he⟩
     | panicked c=>exact hQ _ _ _ he
     | outgrown=>exact he
    case row row args=>exact Rows.mono h fun u w'' he=>⟨keep a same u,by rw[←Act.put_comm a v u h2];exact he⟩
  | halt x w'=>
    cases x<;>simp only[Oper.upon]at h⊢
    case panic u=>exact hQ _ _ _ h
 ·rename_i hw;simp only[hw]at h;exact⟨keep a same _,by rw[←Act.put_comm a v undef h2];exact h⟩
def u9 (md:Region.Mode) (ops:Array Oper) (brk:List Nat) (L:Array Bool) (i:Nat) (T:List Nat):Bool:=
 !T.contains i&&(List.range ops.size).all (fun j=>(!L.getD j false || T.contains j)&&(j==i || T.contains j || ((ops[j]?).map (·.after.any fun e=>Region.binds md e&& !T.contains e.on)).getD true))&&T.all fun j=>L.getD j false || !brk.contains j
structure xp (md:Region.Mode) (ops:Array Oper) (brk:List Nat) (L:Array Bool) (i:Nat) (T:List Nat):Prop where
 sub:∀j,L.getD j false=true→j∈T
 closed:∀(j:Nat) (o:Oper),ops[j]? =some o→j≠i→(∀e∈o.after,Region.binds md e=true→e.on∈T)→j∈T
 brk:∀j,j∈T→L.getD j false=true∨brk.contains j=false
theorem wD {L:Array Bool} {i:Nat} {T:List Nat} (hsz:L.size=ops.size) (h:u9 md ops brk L i T=true):xp md ops brk L i T:=by
 simp only[u9,Bool.and_eq_true,List.all_eq_true,List.mem_range,Bool.or_eq_true,Bool.not_eq_true',beq_iff_eq,List.contains_eq_mem,decide_eq_true_eq,decide_eq_false_iff_not]at h;obtain⟨⟨h1,h2⟩,h3⟩:=h;refine⟨fun j hj=> ?_,fun j o ho hne hd=> ?_,fun j hj=> ?_⟩
 ·have hlt:j<ops.size:=by
   rw[←hsz];rcases Nat.lt_or_ge j L.size with h' | h'
   ·exact h'
   ·simp[Array.getElem?_eq_none h']at hj
  rcases(h2 j hlt).1 with h' | h'
  ·rw[hj]at h';cases h'
  ·exact h'
 ·have hlt:j<ops.size:=(Array.getElem?_eq_some_iff.1 ho).1;rcases(h2 j hlt).2 with(h' | h') | h'
  ·exact absurd h' hne
  ·exact h'
  ·rw[ho]at h';simp only[Option.map_some,Option.getD_some]at h';obtain⟨e,he,hb⟩:=Array.any_eq_true'.1 h';simp only[Bool.and_eq_true,Bool.not_eq_true',decide_eq_false_iff_not]at hb;exact absurd (hd e he hb.1) hb.2
 ·have:=h3 j hj
  simpa using this
theorem xr {i:Nat} {oi:Oper} {v:Value} (hi:ops[i]? =some oi) (hsel:∀(j:Nat) (o:Oper) cs b,ops[j]? =some o→o.op≠ .select cs b)
 (hQ:∀c a w,Q (.panic c) (a.put oi.dst v) w→Q (.panic c) a w) {T:List Nat}:
 ∀(fuel:Nat) (L:Array Bool) (a:Act) (w:World),(∀j oj,ops[j]? =some oj→j≠i→L.getD j true=false→(∀e∈oj.after,Region.binds md e=true→e.on≠i)→oi.apart ops oj=true)→
  (nC oi.op=true→xp md ops brk L i T)→i∈Region.ready md ops L→YieldsAt P ops oi v a w→
  kP P md ops Q brk fuel (L.setIfInBounds i true) (a.put oi.dst v) w→kP P md ops Q brk (fuel+1) L a w:=by
 intro fuel
 induction fuel with
 | zero=>
   intro L a w _ _ hr hy H;refine⟨fun h=>(by rw[h]at hr;cases hr),fun j hj=> ?_⟩
   by_cases hji:j=i
   ·subst hji;exact hy.wpOp hi ⟨fun _=>gE.refl w,H⟩
   ·have:=ready_mono hj hji;rw[H.1]at this;cases this
 | succ fuel ih=>
   intro L a w hfree hbef hr hy H;refine⟨fun h=>(by rw[h]at hr;cases hr),fun j hj=> ?_⟩
   by_cases hji:j=i
   ·subst hji;exact hy.wpOp hi ⟨fun _=>gE.refl w,H⟩
   ·have h1:=H.2 j (ready_mono hj hji);obtain⟨hjun,oj,hoj,hall⟩:=mem_ready.1 hj
    have hnot:∀e∈oj.after,Region.binds md e=true→e.on≠i:=fun e he hb heq=>by
     have h1:=hall e he hb;have h0:=(mem_ready.1 hr).1;rw[heq]at h1;rcases Nat.lt_or_ge i L.size with h' | h'
     ·simp[h']at h0 h1;rw[h0]at h1;cases h1
     ·simp[Array.getElem?_eq_none h']at h1
    have h2:=Cz hoj (hfree j oj hoj hji hjun hnot) (fun cs b=>hsel i oi cs b hi) (fun cs b=>hsel j oj cs b hoj) hQ h1
    have hfree':∀k ok,ops[k]? =some ok→k≠i→(L.setIfInBounds j true).getD k true=false→
     (∀e∈ok.after,Region.binds md e=true→e.on≠i)→oi.apart ops ok=true:=fun k ok hk hki hun hno=>by
     refine hfree k ok hk hki ?_ hno
     by_cases hjk:j=k
     ·subst hjk;exact hjun
     ·rw[getD_set_ne true hjk]at hun;exact hun
    have hjT:nC oi.op=true→j∈T∧brk.contains j=false:=fun hl=>by
     have hb:=hbef hl;have hjT:j∈T:=hb.closed j oj hoj hji (fun e he hbd=>hb.sub _ (hall e he hbd));refine⟨hjT,(hb.brk j hjT).resolve_left (fun h'=> ?_)⟩;rcases Nat.lt_or_ge j L.size with h2 | h2
     ·simp[h2]at hjun h';rw[hjun]at h';cases h'
     ·simp[Array.getElem?_eq_none h2]at h'
    have hbef':nC oi.op=true→xp md ops brk (L.setIfInBounds j true) i T:=fun hl=>by
     have hb:=hbef hl;refine⟨fun k hk=> ?_,hb.closed,fun k hk=>(hb.brk k hk).imp getD_set_true id⟩
     by_cases hjk:j=k
     ·subst hjk;exact(hjT hl).1
     ·rw[getD_set_ne false hjk]at hk;exact hb.sub k hk
    refine wpOp_mono (fun a' w' h3=>⟨h3.2.1,ih (L.setIfInBounds j true) a' w' hfree' hbef' (ready_mono hr (Ne.symm hji)) (hy.later h3.1.exec h3.1.want (fun hl=>h3.2.1 (hjT hl).2)) ?_⟩) h2;rw[Array.setIfInBounds_comm _ _ hji];exact h3.2.2
end
def Ord.depth:Ord→Nat
 | .done=>0
 | .nil=>0
 | .take _ _ t=>t.depth+1
 | .alt _ t o=>max (t.depth+1) o.depth
 | .batch is t=>is.length+t.depth
def lU (ops:Array Oper) (brk:List Nat):Ord→Array Bool→Option (List Nat)→Bool
 | .done,L,none=>(Region.ready .any ops L).isEmpty
 | .take i T t,L,none=>(Region.ready .any ops L).contains i&&Region.free .any ops L i&&((ops[i]?).map (fun o=> !nC o.op || u9 .any ops brk L i T)).getD false&&lU ops brk t (L.setIfInBounds i true) none
 | .alt i t o,L,none=>(match Region.ready .any ops L with
   | j::rs=>j==i&&lU ops brk t (L.setIfInBounds i true) none&&lU ops brk o L (some rs)
   | []=>false)
 | .alt i t o,L,some (j::rs)=>j==i&&lU ops brk t (L.setIfInBounds i true) none&&lU ops brk o L (some rs)
 | .batch is t,L,none=>xS ops L is&&lU ops brk t (is.foldl (fun L i=>L.setIfInBounds i true) L) none
 | .nil,_,some []=>true
 | _,_,_=>false
section
variable {B:fK} {n:Nat} {Vo:Nat→Value}
theorem yu (G:Good P C) {Q:bE C} {K:iR C} {S:St C} {a:Act} {w:World} (h:Holds C B n Vo S a w) {all:Array Oper} (hall:∀(j:Nat) (o:Oper),all[j]? =some o→jU n o) {i:Nat} {o:Oper} (hi:all[i]? =some o) {k:St C→Prop}
 (he:ky C Q K (fun S=>gw C (kG C S o.dst) o) o all S k):∃v S',YieldsAt P all o v a w∧k S'∧Holds C B n Vo S' (a.put o.dst v) w:=by
 rcases pG h hall (hall i o hi).2 he with⟨hw,S1,h1,hc,he1⟩ | ⟨hw,S1,hk1,h1⟩
 ·have hcl:gx o.op=none:=by
   cases hcl:gx o.op with
   | none=>rfl
   | some fx=>
     obtain⟨⟨f,xs⟩,hcl'⟩:∃fx,gx o.op=some fx:=⟨fx,hcl⟩;unfold gw at hc;unfold gx at hcl;split at hcl
     ·rename_i c hop;split at hcl
      ·rename_i f' hcal;rw[hop]at hc;simp only[hcal]at hc;cases hc
      ·cases hcl
     ·cases hcl
  rcases h1.one G (hall i o hi).1 (hall i o hi).2 he1 hcl with⟨v,w',S',hr,hkS,h2,hq,_⟩ | ⟨w',S',_,_,_,hst,_⟩
  ·have hq:=hq hc;obtain⟨rfl,hq2⟩:=hq _ _ hr;exact⟨v,S',.inl ⟨hw,hr,hq2⟩,hkS,h2⟩
  ·rw[hst]at hc;cases hc
 ·exact⟨undef,S1,.inr ⟨hw,rfl⟩,hk1,h1⟩
theorem Cf (S:St C) (p:Nat×C.PV):∀vals:List (Nat×C.PV),lay C S (vals++[p])=(clear (lay C S vals) p.1).set p.1 p.2:=fun vals=>by
 induction vals generalizing S with
 | nil=>rfl
 | cons q vs ih=>exact ih _
theorem pF {j:Nat} {b:Bool}:∀(is:List Nat) (L:Array Bool),(∀i∈is,i<L.size)→(is.foldl (fun L i=>L.setIfInBounds i true) L).getD j b=if j∈is then true else L.getD j b
 | [],L,_=>by simp
 | i::is,L,h=>by
   rw[List.foldl_cons,pF is _ (fun k hk=>by rw[Array.size_setIfInBounds];exact h k (List.mem_cons_of_mem _ hk))]
   by_cases hj:j∈is
   ·simp[hj]
   ·rw[if_neg hj]
    by_cases hji:j=i
    ·subst hji;have:=h j List.mem_cons_self;simp[this]
    ·rw[getD_set_ne b (fun e=>hji e.symm)];simp[hj,hji]
theorem wL {α:Type} {p:α→Prop}:∀(l:List α),(∃x∈l,¬p x)→∃(k:Nat) (x:α),l[k]? =some x∧¬p x∧∀(j:Nat) (y:α),j<k→l[j]? =some y→p y
 | [],⟨x,hx,_⟩=>by cases hx
 | z::l,⟨x,hx,hp⟩=>by
   by_cases hz:p z
   ·obtain⟨k,y,h1,h2,h3⟩:=wL l ⟨x,(List.mem_cons.1 hx).resolve_left (fun e=>hp (e▸hz)),hp⟩;refine⟨k+1,y,by simpa using h1,h2,fun j u hj hu=> ?_⟩;cases j with
    | zero=>simp at hu;exact hu▸hz
    | succ j=>exact h3 j u (by omega) (by simpa using hu)
   ·exact⟨0,z,rfl,hz,fun j _ hj=>by omega⟩
theorem AU {L:Array Bool} {i:Nat} (h:L.getD i true=false):L.getD i false=false:=by
 rcases Nat.lt_or_ge i L.size with h' | h'
 ·simp[h']at h⊢;exact h
 ·simp[Array.getElem?_eq_none h']
theorem Br (G:Good P C) (Q:bE C) (K:iR C) {Q':Exit→Act→World→Prop} {all:Array Oper} {brk:List Nat} (hall:∀(j:Nat) (o:Oper),all[j]? =some o→jU n o)
 (hcall:∀w1,Kept B w1→∀(j:Nat) (o:Oper),all[j]? =some o→(gx o.op).isSome=true→kL P C (still w1) n Vo Q K Q' o)
 {S0:St C} {L0:Array Bool} {is:List Nat} {rs:List (Nat×Nat×C.PV)} (hrs:rs.map (·.1)=is) (hT:wQ Q K all S0 rs []) (hnm:S0.any (names C (Ct all is))=false) (hok:xS all L0 is=true) (hL0:L0.size=all.size) {D:Nat}
 (hend:∀a w,Holds C B n Vo (lay C S0 (rs.map (·.2))) a w→∀fuel,D≤fuel→kP P .any all Q' brk fuel (is.foldl (fun L i=>L.setIfInBounds i true) L0) a w):
 ∀(m:Nat) (exec:List (Nat×Nat×C.PV)) (L:Array Bool) (a:Act) (w:World),(rs.filter fun x=> !(exec.map (·.1)).contains x.1).length≤m→(∀x∈exec,x∈rs)→(exec.map (·.1)).Nodup→L.size=all.size→(∀j b,L.getD j b=if j∈exec.map (·.1)then true else L0.getD j b)→
  (∀i∈exec.map (·.1),∀j∈lK all i,L.getD j false=true)→Holds C B n Vo (lay C S0 (exec.map (·.2))) a w→∀fuel,m+D≤fuel→kP P .any all Q' brk fuel L a w:=by
 simp only[xS,Bool.and_eq_true,List.all_eq_true,List.mem_range,Bool.or_eq_true,List.contains_iff_mem]at hok;obtain⟨hseq,hcov⟩:=hok;have hat:∀(k:Nat) (x:Nat×Nat×C.PV),rs[k]? =some x→is[k]? =some x.1:=fun k x hx=>by rw[←hrs,List.getElem?_map,hx];rfl
 have hmis:∀x∈rs,x.1∈is:=fun x hx=>by rw[←hrs];exact List.mem_map.2 ⟨x,hx,rfl⟩
 have hdst:∀x∈rs,(all[x.1]?).bind (·.dst)=some x.2.1∧mB C x.2.2=true:=fun x hx=>by
  obtain⟨k,hk⟩:=List.getElem?_of_mem hx;obtain⟨o,S1,h1,h2,h3,_⟩:=hT.at _ _ k x hk;exact⟨by rw[h1];exact h2,h3⟩
 have hds:∀x∈rs,x.2.1∈Ct all is∧mB C x.2.2=true:=fun x hx=>⟨List.mem_filterMap.2 ⟨x.1,hmis x hx,(hdst x hx).1⟩,(hdst x hx).2⟩
 have hinj:∀x∈rs,∀y∈rs,x.2.1=y.2.1∨x.1=y.1→x=y:=fun x hx y hy h=>by
  obtain⟨k,hk⟩:=List.getElem?_of_mem hx;obtain⟨l,hl⟩:=List.getElem?_of_mem hy
  have before:∀(k l:Nat) (x y:Nat×Nat×C.PV),rs[k]? =some x→rs[l]? =some y→k<l→¬(x.2.1=y.2.1∨x.1=y.1):=fun k l x y hk hl hkl h=>by
   obtain⟨o,_,_,_,_,h5,_,h7⟩:=jO is [] hseq l y.1 (hat l y hl)
   have hm:x.1∈[]++is.take l:=by
    rw[List.nil_append];exact List.mem_of_getElem? (i:=k) (by rw[List.getElem?_take_of_lt hkl];exact hat k x hk)
   rcases h with h | h
   ·exact h7 x.1 hm (by rw[(hdst y (List.mem_of_getElem? hl)).1,(hdst x (List.mem_of_getElem? hk)).1,h])
   ·exact h5 (h▸hm)
  rcases Nat.lt_trichotomy k l with hkl | rfl | hkl
  ·exact absurd h (before k l x y hk hl hkl)
  ·rw[hk]at hl;exact Option.some.inj hl
  ·exact absurd (h.imp Eq.symm Eq.symm) (before l k y x hl hk hkl)
 have nodupS:∀exec:List (Nat×Nat×C.PV),(∀x∈exec,x∈rs)→(exec.map (·.1)).Nodup→((exec.map (·.2)).map (·.1)).Nodup:=by
  intro exec
  induction exec with
  | nil=>intro _ _;simp
  | cons x xs ih=>
    intro h1 h2;rw[List.map_cons,List.nodup_cons]at h2;rw[List.map_cons,List.map_cons,List.nodup_cons];refine⟨fun hm=> ?_,ih (fun y hy=>h1 y (List.mem_cons_of_mem _ hy)) h2.2⟩;obtain⟨p,hp,he⟩:=List.mem_map.1 hm;obtain⟨y,hy,rfl⟩:=List.mem_map.1 hp;have:=hinj y (h1 y (List.mem_cons_of_mem _ hy)) x (h1 x List.mem_cons_self) (.inl he);subst this;exact h2.1 (List.mem_map.2 ⟨_,hy,rfl⟩)
 have nodupI:∀k,((rs.take k).map (·.1)).Nodup:=by
  intro k;rw[List.map_take,hrs];refine List.nodup_iff_pairwise_ne.2 (List.pairwise_iff_getElem.2 fun i j hi hj hij he=> ?_);have hil:i<is.length:=by simp at hi;omega
  have hjl:j<is.length:=by simp at hj;omega
  simp only[List.getElem_take]at he;obtain⟨o,_,_,_,_,h5,_⟩:=jO is [] hseq j is[j] (List.getElem?_eq_getElem hjl);refine h5 ?_;rw[List.nil_append,←he];exact List.mem_of_getElem? (i:=i) (by rw[List.getElem?_take_of_lt hij];exact List.getElem?_eq_getElem hil)
 have hL0f:∀x∈rs,L0.getD x.1 true=false:=fun x hx=>by
  obtain⟨k,hk⟩:=List.getElem?_of_mem hx;obtain⟨_,_,_,_,_,_,hu,_⟩:=jO is [] hseq k x.1 (hat k x hk);exact hu
 have hin:∀x∈rs,x.1<all.size:=fun x hx=>by
  have:=(hdst x hx).1;rcases Nat.lt_or_ge x.1 all.size with h | h
  ·exact h
  ·rw[Array.getElem?_eq_none h]at this;cases this
 have hleft:∀exec:List (Nat×Nat×C.PV),(rs.filter fun x=> !(exec.map (·.1)).contains x.1)=[]→∀x∈rs,x.1∈exec.map (·.1):=fun exec h x hx=>by
  have:=List.filter_eq_nil_iff.1 h x hx
  simpa using this
 have done:∀(exec:List (Nat×Nat×C.PV)) (L:Array Bool) (a:Act) (w:World),(rs.filter fun x=> !(exec.map (·.1)).contains x.1)=[]→(∀x∈exec,x∈rs)→(exec.map (·.1)).Nodup→L.size=all.size→(∀j b,L.getD j b=if j∈exec.map (·.1)then true else L0.getD j b)→
  Holds C B n Vo (lay C S0 (exec.map (·.2))) a w→∀fuel,D≤fuel→kP P .any all Q' brk fuel L a w:=by
  intro exec L a w hf h1 h2 h3 h4 hh fuel hD
  have hx:∀x∈rs,x∈exec:=fun x hx=>by
   obtain⟨y,hy,he⟩:=List.mem_map.1 (hleft exec hf x hx);have:=hinj y (h1 y hy) x hx (.inr he);exact this▸hy
  have rsn:((rs.map (·.2)).map (·.1)).Nodup:=nodupS rs (fun _ h=>h) (by have:=nodupI rs.length;rwa [List.take_length]at this)
  have e:lay C S0 (exec.map (·.2))=lay C S0 (rs.map (·.2)):=by
   rw[(oR (exec.map (·.2)) S0 hnm (fun p hp=>by obtain⟨y,hy,rfl⟩:=List.mem_map.1 hp;exact hds y (h1 y hy))).1,(oR (rs.map (·.2)) S0 hnm (fun p hp=>by obtain⟨y,hy,rfl⟩:=List.mem_map.1 hp;exact hds y hy)).1];refine Bm (nodupS exec h1 h2) rsn (fun p=>⟨fun hp=> ?_,fun hp=> ?_⟩)
   ·obtain⟨y,hy,rfl⟩:=List.mem_map.1 hp;exact List.mem_map.2 ⟨y,h1 y hy,rfl⟩
   ·obtain⟨y,hy,rfl⟩:=List.mem_map.1 hp;exact List.mem_map.2 ⟨y,hx y hy,rfl⟩
  have hsz:∀(is:List Nat) (L:Array Bool),(is.foldl (fun L i=>L.setIfInBounds i true) L).size=L.size:=fun is=>by
   induction is with
   | nil=>intro L;rfl
   | cons i is ih=>intro L;rw[List.foldl_cons,ih,Array.size_setIfInBounds]
  have eL:L=is.foldl (fun L i=>L.setIfInBounds i true) L0:=by
   apply Array.ext
   ·rw[hsz,h3,hL0]
   ·intro j hj1 hj2;have k1:L.getD j false=L[j]:=by simp[hj1]
    have k2:(is.foldl (fun L i=>L.setIfInBounds i true) L0).getD j false=(is.foldl (fun L i=>L.setIfInBounds i true) L0)[j]:=by simp[hj2]
    rw[←k1,←k2,h4,pF is L0 (fun i hi=>by
     rw[←hrs]at hi;obtain⟨y,hy,rfl⟩:=List.mem_map.1 hi;rw[hL0];exact hin y hy)]
    have:j∈exec.map (·.1)↔j∈is:=by
     rw[←hrs];constructor
     ·intro h;obtain⟨y,hy,rfl⟩:=List.mem_map.1 h;exact List.mem_map.2 ⟨y,h1 y hy,rfl⟩
     ·intro h;obtain⟨y,hy,rfl⟩:=List.mem_map.1 h;exact List.mem_map.2 ⟨y,hx y hy,rfl⟩
    by_cases hj:j∈is
    ·rw[if_pos (this.2 hj),if_pos hj]
    ·rw[if_neg (fun h=>hj (this.1 h)),if_neg hj]
  rw[e]at hh;rw[eL];exact hend a w hh fuel hD
 intro m
 induction m with
 | zero=>
   intro exec L a w hlen h1 h2 h3 h4 h5 hh fuel hf;exact done exec L a w (List.eq_nil_of_length_eq_zero (by omega)) h1 h2 h3 h4 hh fuel (by omega)
 | succ m ih=>
   intro exec L a w hlen h1 h2 h3 h4 h5 hh fuel hf
   by_cases hemp:(rs.filter fun x=> !(exec.map (·.1)).contains x.1)=[]
   ·exact done exec L a w hemp h1 h2 h3 h4 hh fuel (by omega)
   cases fuel with
   | zero=>omega
   | succ fuel=>
   have hex:∃x∈rs,¬x.1∈exec.map (·.1):=Classical.byContradiction fun hno=>hemp (List.filter_eq_nil_iff.2 fun x hx=>by
    have:x.1∈exec.map (·.1):=Classical.byContradiction fun h=>hno ⟨x,hx,h⟩
    simpa using this)
   have hfalse:∀x∈rs,x.1 ∉ exec.map (·.1)→∀b,L.getD x.1 b=false:=fun x hx hne b=>by
    rw[h4,if_neg hne];cases b with
    | true=>exact hL0f x hx
    | false=>exact AU (hL0f x hx)
   refine⟨fun hr=> ?_,fun i hi=> ?_⟩
   ·obtain⟨k,x,hk,hx,hb⟩:=wL (p:=fun x=>x.1∈exec.map (·.1)) rs hex;obtain⟨o,ho,hg,hdp,_,_,hu,_⟩:=jO is [] hseq k x.1 (hat k x hk)
    have:x.1∈Region.ready .any all L:=mem_ready.2 ⟨hfalse x (List.mem_of_getElem? hk) hx true,o,ho,fun e he hb'=>by
     rw[h4];split
     ·rfl
     ·rename_i hne;rcases hdp _ (rm.2 ⟨o,ho,e,he,hb',rfl⟩)with h | h
      ·exact h
      ·exfalso;rw[List.nil_append]at h;obtain⟨l,hl⟩:=List.getElem?_of_mem h
       have hlk:l<k:=by
        have:=(List.getElem?_eq_some_iff.1 hl).1;simp at this;omega
       rw[List.getElem?_take_of_lt hlk,←hrs,List.getElem?_map]at hl;cases hy:rs[l]? with
       | none=>rw[hy]at hl;cases hl
       | some y=>
         rw[hy]at hl;have:y.1=e.on:=Option.some.inj hl;exact hne (this▸hb l y hlk hy)⟩
    rw[hr]at this;cases this
   ·obtain⟨hun,o,ho,hedge⟩:=mem_ready.1 hi
    have hcl:∀i∈is,L.getD i false=true→∀j∈lK all i,L.getD j false=true:=fun i hi hd=>by
     rw[←hrs]at hi;obtain⟨y,hy,rfl⟩:=List.mem_map.1 hi
     by_cases hye:y.1∈exec.map (·.1)
     ·exact h5 y.1 hye
     ·rw[hfalse y hy hye]at hd;cases hd
    have hiI:i∈is:=by
     apply Classical.byContradiction;intro hni;have hlt:i<all.size:=(Array.getElem?_eq_some_iff.1 ho).1;rcases hcov i hlt with(h6 | h6) | h6
     ·have hne:i ∉ exec.map (·.1):=fun h=>by
       obtain⟨y,hy,rfl⟩:=List.mem_map.1 h;exact hni (hmis y (h1 y hy))
      rw[h4,if_neg hne]at hun;rw[AU hun]at h6;cases h6
     ·exact hni h6
     ·obtain⟨x,hx,hne⟩:=hex
      have:=vF (L:=L) (I:=is) hcl is.reverse _ (fun i hi=>List.mem_reverse.1 hi) (fun j hj=>by
       obtain⟨o',ho',e,he,hb,rfl⟩:=rm.1 hj;rw[ho]at ho';cases ho';exact hedge e he hb) h6 x.1 (List.mem_reverse.2 (hmis x hx))
      rw[hfalse x hx hne]at this;cases this
    rw[←hrs]at hiI;obtain⟨x,hx,rfl⟩:=List.mem_map.1 hiI;have hxe:x.1 ∉ exec.map (·.1):=fun h=>by rw[h4,if_pos h]at hun;cases hun
    obtain⟨k,hk⟩:=List.getElem?_of_mem hx;obtain⟨o',S1,ho',hd,hv,hS1,hev⟩:=hT.at _ _ k x hk;rw[ho]at ho';cases ho';obtain⟨o',ho',hguard,_,hrd,_⟩:=jO is [] hseq k x.1 (hat k x hk);rw[ho]at ho';cases ho'
    have hview:ly C (lay C S0 ([]++(rs.take k).map (·.2))) o=ly C (lay C S0 (exec.map (·.2))) o:=by
     rw[List.nil_append];refine Bz hnm (fun p hp=> ?_) (fun p hp=> ?_) (nodupS _ (fun y hy=>List.mem_of_mem_take hy) (nodupI k)) (nodupS exec h1 h2) (fun t ht htd=> ?_)
     ·obtain⟨y,hy,rfl⟩:=List.mem_map.1 hp;exact hds y (List.mem_of_mem_take hy)
     ·obtain⟨y,hy,rfl⟩:=List.mem_map.1 hp;exact hds y (h1 y hy)
     ·obtain⟨z,hz,hzt⟩:=List.any_eq_true.1 ht
      have hzt:z= .tmp t:=by
       cases z with
       | tmp q=>simp[Cj]at hzt;rw[hzt]
       | _=>cases hzt
      subst hzt;obtain⟨j,hj,hjd,hjdep⟩:=hrd t hz htd;rw[List.nil_append,←hrs,←List.map_take]at hj;obtain⟨y,hy,rfl⟩:=List.mem_map.1 hj;have hyr:=List.mem_of_mem_take hy
      have hyt:y.2.1=t:=by
       have:=(hdst y hyr).1;rw[hjd]at this;exact(Option.some.inj this).symm
      have hye:y∈exec:=by
       obtain⟨o',ho',e,he,hb,heq⟩:=rm.1 hjdep;rw[ho]at ho';cases ho';have h7:=hedge e he hb;rw[heq]at h7;have h8:y.1∈exec.map (·.1):=Classical.byContradiction fun h=>by rw[hfalse y hyr h]at h7;cases h7
       obtain⟨u,hu,he'⟩:=List.mem_map.1 h8;have:=hinj u (h1 u hu) y hyr (.inr he');exact this▸hu
      exact⟨y.2.2,by rw[←hyt];exact List.mem_map.2 ⟨y,hy,rfl⟩,by rw[←hyt];exact List.mem_map.2 ⟨y,hye,rfl⟩⟩
    rw[hview]at hev
    have hkept:Kept B w:=by
     obtain⟨V,N,bs,hR,_,_⟩:=hh;exact hR.kept
    have hw:Region.wanted o (yielded all a.tmps)=true:=by unfold Region.wanted;rw[hguard]
    unfold wpOp;simp only[ho];rw[if_pos hw];refine .inl (Oper.wp_mono (fun a' w' ⟨hag,hh'⟩=>⟨fun _=>hag,?_⟩) (BA G Q K hh hd (hall _ _ ho) (hcall w hkept _ _ ho) hv hS1 hev));have hmem:∀j,j∈(exec++[x]).map (·.1)↔j∈exec.map (·.1)∨j=x.1:=fun j=>by simp
    refine ih (exec++[x]) _ a' w' ?_ (fun y hy=> ?_) ?_ (by rw[Array.size_setIfInBounds];exact h3) (fun j b=> ?_) (fun j hj l hl=> ?_) ?_ fuel (by omega)
    ·have hlt:(rs.filter fun y=> !((exec++[x]).map (·.1)).contains y.1).length<(rs.filter fun y=> !(exec.map (·.1)).contains y.1).length:=by
      have e:(rs.filter fun y=> !((exec++[x]).map (·.1)).contains y.1)=(rs.filter fun y=> !(exec.map (·.1)).contains y.1).filter fun y=> !(y.1==x.1):=by
       rw[List.filter_filter];refine List.filter_congr fun y _=> ?_;rw[List.map_append,List.contains_eq_any_beq,List.contains_eq_any_beq,List.any_append];simp[Bool.and_comm]
      rw[e];refine List.length_filter_lt_length_iff_exists.2 ⟨x,List.mem_filter.2 ⟨hx,by simpa using hxe⟩,by simp⟩
     omega
    ·rcases List.mem_append.1 hy with hy | hy
     ·exact h1 y hy
     ·simp at hy;exact hy▸hx
    ·rw[List.map_append,List.nodup_append];refine⟨h2,by simp,fun u hu v hv he=> ?_⟩;simp at hv;subst hv;exact hxe (he▸hu)
    ·by_cases hj:j=x.1
     ·subst hj;rw[if_pos ((hmem _).2 (.inr rfl))];have:x.1<L.size:=by rw[h3];exact hin x hx
      simp[this]
     ·rw[getD_set_ne b (fun e=>hj e.symm),h4]
      by_cases hje:j∈exec.map (·.1)
      ·rw[if_pos hje,if_pos ((hmem _).2 (.inl hje))]
      ·rw[if_neg hje,if_neg (fun h=>((hmem _).1 h).elim hje hj)]
    ·refine getD_set_true ?_;rcases(hmem j).1 hj with hj | rfl
     ·exact h5 j hj l hl
     ·obtain⟨o',ho',e,he,hb,rfl⟩:=rm.1 hl;rw[ho]at ho';cases ho';exact hedge e he hb
    ·rw[List.map_append];show Holds C B n Vo (lay C S0 (exec.map (·.2)++[x.2])) a' w';rw[Cf];exact hh'
theorem ya (G:Good P C) (Q:bE C) (K:iR C) {Q':Exit→Act→World→Prop} {k:St C→Prop} {all:Array Oper} {brk:List Nat} (hall:∀(j:Nat) (o:Oper),all[j]? =some o→jU n o) (hcall:∀(j:Nat) (o:Oper),all[j]? =some o→(gx o.op).isSome=true→kL P C B n Vo Q K Q' o) (hstill:∀w1,Kept B w1→∀(j:Nat) (o:Oper),all[j]? =some o→(gx o.op).isSome=true→kL P C (still w1) n Vo Q K Q' o)
 (hsel:Region.noSelect all=true) (hQ:∀c d v a w,Q' (.panic c) (Act.put a d v) w→Q' (.panic c) a w) (hk:∀S' a' w',k S'→Holds C B n Vo S' a' w'→Q' .normal a' w'):
 ∀(t:Ord) (L:Array Bool) (rs:Option (List Nat)) {S:St C} {a:Act} {w:World},L.size=all.size→lU all brk t L rs=true→Holds C B n Vo S a w→kN C Q K all brk t S k→
  match rs with
  | none=>∀fuel,t.depth≤fuel→kP P .any all Q' brk fuel L a w
  | some rs=>∀fuel,t.depth≤fuel+1→∀i∈rs,wpOp P all Q' i (fun a' w'=>(brk.contains i=false→gE w w')∧kP P .any all Q' brk fuel (L.setIfInBounds i true) a' w') a w:=by
 intro t
 have alt:∀(i:Nat) (t:Ord),(∀(L:Array Bool) (rs:Option (List Nat)) {S:St C} {a:Act} {w:World},L.size=all.size→lU all brk t L rs=true→Holds C B n Vo S a w→kN C Q K all brk t S k→
  match rs with
  | none=>∀fuel,t.depth≤fuel→kP P .any all Q' brk fuel L a w
  | some rs=>∀fuel,t.depth≤fuel+1→∀i∈rs,wpOp P all Q' i (fun a' w'=>(brk.contains i=false→gE w w')∧kP P .any all Q' brk fuel (L.setIfInBounds i true) a' w') a w)→
  ∀(L:Array Bool) {S:St C} {a:Act} {w:World},L.size=all.size→lU all brk t (L.setIfInBounds i true) none=true→Holds C B n Vo S a w→
  (match all[i]? with
   | some o=>ky C Q K (fun S=>brk.contains i || jR C Q S o) o all S (fun S'=>kN C Q K all brk t S' k)
   | none=>False)→∀fuel,t.depth≤fuel→wpOp P all Q' i (fun a' w'=>(brk.contains i=false→gE w w')∧kP P .any all Q' brk fuel (L.setIfInBounds i true) a' w') a w:=by
  intro i t ih L S a w hsz hok h he fuel hf;split at he
  ·rename_i o hi
   exact mn G Q K hall hcall hi h he (fun S1 S' a' w' hc hm hks h'=>⟨fun hb=>hm (by
    rw[hb]at hc
    simpa using hc),ih _ none (by simpa using hsz) hok h' hks fuel hf⟩)
    (fun S' a' hks h'=>⟨fun _=>gE.refl w,ih _ none (by simpa using hsz) hok h' hks fuel hf⟩)
  ·exact he.elim
 induction t with
 | done=>
   intro L rs S a w hsz hok h he;cases rs with
   | some rs=>cases hok
   | none=>
     intro fuel _
     have hr:Region.ready .any all L=[]:=by
      have:(Region.ready .any all L).isEmpty=true:=hok
      simpa using this
     have hq:=hk _ _ _ he h;cases fuel with
     | zero=>exact⟨hr,hq⟩
     | succ f=>exact⟨fun _=>hq,by rw[hr];simp⟩
 | nil=>
   intro L rs S a w hsz hok h he;cases rs with
   | none=>cases hok
   | some rs=>
     cases rs with
     | nil=>intro fuel _ i hi;simp at hi
     | cons j rs=>cases hok
 | take i T t ih=>
   intro L rs S a w hsz hok h he;cases rs with
   | some rs=>cases hok
   | none=>
     intro fuel hf;simp only[lU,Bool.and_eq_true]at hok;obtain⟨⟨⟨h1,h2⟩,h3⟩,h4⟩:=hok;unfold kN at he;split at he
     ·rename_i o hi;obtain⟨v,S',hy,hks,h'⟩:=yu G h hall hi he;cases fuel with
      | zero=>simp[Ord.depth]at hf
      | succ fuel=>
        have hb:nC o.op=true→xp .any all brk L i T:=fun hl=>by
         rw[hi]at h3;simp only[Option.map_some,Option.getD_some,Bool.or_eq_true,Bool.not_eq_true']at h3;rcases h3 with h3 | h3
         ·rw[hl]at h3;cases h3
         ·exact wD hsz h3
        exact xr hi (Region.noSelect_spec hsel) (fun c a w=>hQ c o.dst v a w) fuel L a w (Region.free_spec hi h2) hb (by simpa using h1) hy
         (ih (L.setIfInBounds i true) none (by simpa using hsz) h4 h' hks fuel (by simpa [Ord.depth]using hf))
     ·exact he.elim
 | alt i t o iht iho=>
   intro L rs S a w hsz hok h he;obtain⟨he1,he2⟩:_∧_:=he;cases rs with
   | none=>
     intro fuel hf;unfold lU at hok;split at hok
     ·rename_i j rs hrd;simp only[Bool.and_eq_true,beq_iff_eq]at hok;obtain⟨⟨rfl,h1⟩,h2⟩:=hok;cases fuel with
      | zero=>simp[Ord.depth]at hf
      | succ fuel=>
        refine⟨fun h0=>(by rw[h0]at hrd;cases hrd),fun k hk'=> ?_⟩;rw[hrd]at hk';rcases List.mem_cons.1 hk' with rfl | hk'
        ·exact alt _ t iht L hsz h1 h he1 fuel (by simp[Ord.depth]at hf;omega)
        ·exact iho L (some rs) hsz h2 h he2 fuel (by simp[Ord.depth]at hf;omega) k hk'
     ·cases hok
   | some rs=>
     cases rs with
     | nil=>cases hok
     | cons j rs=>
       intro fuel hf k hk';simp only[lU,Bool.and_eq_true,beq_iff_eq]at hok;obtain⟨⟨rfl,h1⟩,h2⟩:=hok;rcases List.mem_cons.1 hk' with rfl | hk'
       ·exact alt _ t iht L hsz h1 h he1 fuel (by simp[Ord.depth]at hf;omega)
       ·exact iho L (some rs) hsz h2 h he2 fuel (by simp[Ord.depth]at hf;omega) k hk'
 | batch is t ih=>
   intro L rs S a w hsz hok h he;cases rs with
   | some rs=>cases hok
   | none=>
     intro fuel hf;simp only[lU,Bool.and_eq_true]at hok;unfold kN at he;split at he
     ·exact he.elim
     ·rename_i hnm;obtain⟨rs,e,hT,hk'⟩:=ve is [] he
      have hsz':∀(is:List Nat) (L:Array Bool),(is.foldl (fun L i=>L.setIfInBounds i true) L).size=L.size:=fun is=>by
       induction is with
       | nil=>intro L;rfl
       | cons i is ih=>intro L;rw[List.foldl_cons,ih,Array.size_setIfInBounds]
      have hlen:rs.length=is.length:=by rw[←e,List.length_map]
      refine Br G Q K hall hstill e hT (by simpa using hnm) hok.1 hsz (D:=t.depth) (fun a w hh fuel hf=>ih _ none (by rw[hsz',hsz]) hok.2 hh hk' fuel hf) rs.length [] L a w (List.length_filter_le _ _) (fun x hx=>by cases hx) (by simp) hsz (fun j b=>by simp) (fun i hi=>by simp at hi) h fuel (by simp only[Ord.depth]at hf;omega)
def yl (ops:Array Oper) (brk:List Nat) (t:Ord):Bool:=Region.noSelect ops&&decide (t.depth≤ops.size)&&lU ops brk t (Array.replicate ops.size false) none
theorem yX (G:Good P C) (Q:bE C) (K:iR C) (hm:P.follows .mixedOrders=true) {id:Nat} {Q':Exit→Act→World→Prop} {k:St C→Prop} {all:Array Oper} {brk:List Nat} {t:Ord} (hok:yl all brk t=true) (hall:∀(j:Nat) (o:Oper),all[j]? =some o→jU n o)
 (hcall:∀(j:Nat) (o:Oper),all[j]? =some o→(gx o.op).isSome=true→kL P C B n Vo Q K Q' o) (hstill:∀w1,Kept B w1→∀(j:Nat) (o:Oper),all[j]? =some o→(gx o.op).isSome=true→kL P C (still w1) n Vo Q K Q' o) (hQ:∀c d v a w,Q' (.panic c) (Act.put a d v) w→Q' (.panic c) a w) (hk:∀S' a' w',k S'→Holds C B n Vo S' a' w'→Q' .normal a' w') {S:St C} {a:Act} {w:World} (h:Holds C B n Vo S a w) (he:kN C Q K all brk t S k):
 (Code.region id all true).wp P Q' a w:=by
 simp only[yl,Bool.and_eq_true,decide_eq_true_eq]at hok;obtain⟨⟨h1,h2⟩,h3⟩:=hok
 have hd:Holds C B n Vo S a {w with drawn:=w.drawn+1}:=by
  obtain⟨V,N,bs,hR,ha,hV⟩:=h;exact⟨V,N,bs,hR.world (fun _ _=>rfl) (Nat.le_refl _) ⟨hR.kept.os,hR.kept.tape,hR.kept.output,hR.kept.size,hR.kept.block⟩,ha,hV⟩
 exact wp_region_any hm (u7 _ _ _ _ (ya G Q K hall hcall hstill h1 hQ hk t _ none (by simp) h3 hd he all.size h2))
end
end Go.Proofs.YtmapddgocpkgeaaGreat.aa
namespace Go.Proofs.YtmapddgocpkgeaaGreat.aa
open Go.RowKit
set_option linter.unusedVariables false
set_option linter.unusedSimpArgs false
variable {P:Program} {C:Ctx}
abbrev nk:=Exit→Act→World→Prop
def fT (P:Program) (id:Nat):Code→nk→Option (Array Oper×Bool×nk)
 | .region i ops dr,Q=>if i=id then some (ops,dr,Q)else none
 | .seq a b,Q=>match fT P id a (Exit.then (b.wp P Q) Q)with
   | some r=>some r
   | none=>fT P id b Q
 | .cond _ a b,Q=>match fT P id a Q with
   | some r=>some r
   | none=>fT P id b Q
 | .block i c,Q=>fT P id c (Exit.inBlock i Q)
 | .loop c,Q=>fT P id c (Exit.then (pa P c Q) Q)
 | _,_=>none
def ids:Code→List Nat
 | .region i _ _=>[i]
 | .seq a b=>ids a++ids b
 | .cond _ a b=>ids a++ids b
 | .block _ c=>ids c
 | .loop c=>ids c
 | _=>[]
theorem ny {id:Nat}:∀(c:Code) (Q:nk) {r:Array Oper×Bool×nk},fT P id c Q=some r→id∈ids c:=by
 intro c
 induction c with
 | region i ops dr=>
   intro Q r h;unfold fT at h;split at h
   ·rename_i e;simp[ids,e]
   ·cases h
 | seq a b iha ihb=>
   intro Q r h;unfold fT at h;split at h
   ·rename_i r' h';exact List.mem_append_left _ (iha _ h')
   ·exact List.mem_append_right _ (ihb _ h)
 | cond x a b iha ihb=>
   intro Q r h;unfold fT at h;split at h
   ·rename_i r' h';exact List.mem_append_left _ (iha _ h')
   ·exact List.mem_append_right _ (ihb _ h)
 | block i c ih=>intro Q r h;exact ih _ h
 | loop c ih=>intro Q r h;exact ih _ h
 | _=>intro Q r h;cases h
def AL (P:Program) (c0:Code) (Q0:nk) (c:Code) (Q:nk):Prop:=∀id r,fT P id c Q=some r→fT P id c0 Q0=some r
theorem AL.zh {c0 a b:Code} {Q0 Q:nk} (h:AL P c0 Q0 (.seq a b) Q):AL P c0 Q0 a (Exit.then (b.wp P Q) Q):=fun id r hr=>h id r (by unfold fT;rw[hr])
theorem AL.si {c0 a b:Code} {Q0 Q:nk} (hn:(ids (.seq a b)).Nodup) (h:AL P c0 Q0 (.seq a b) Q):AL P c0 Q0 b Q:=fun id r hr=>h id r (by
 unfold fT;split
 ·rename_i r' h';exact absurd rfl ((List.nodup_append.1 hn).2.2 id (ny a _ h') id (ny b _ hr))
 ·exact hr)
theorem AL.xg {c0 a b:Code} {x:Operand} {Q0 Q:nk} (h:AL P c0 Q0 (.cond x a b) Q):AL P c0 Q0 a Q:=fun id r hr=>h id r (by unfold fT;rw[hr])
theorem AL.uZ {c0 a b:Code} {x:Operand} {Q0 Q:nk} (hn:(ids (.cond x a b)).Nodup) (h:AL P c0 Q0 (.cond x a b) Q):AL P c0 Q0 b Q:=fun id r hr=>h id r (by
 unfold fT;split
 ·rename_i r' h';exact absurd rfl ((List.nodup_append.1 hn).2.2 id (ny a _ h') id (ny b _ hr))
 ·exact hr)
theorem yC {a:Act} {w:World} {i:Nat}:∀(c:Code) (Q:nk),first c=some i→∃ops dr Qi,fT P i c Q=some (ops,dr,Qi)∧((Code.region i ops dr).wp P Qi a w→c.wp P Q a w):=by
 intro c
 induction c with
 | region j ops dr=>
   intro Q h;cases h;exact⟨ops,dr,Q,by unfold fT;rw[if_pos rfl],id⟩
 | seq x y ihx ihy=>
   intro Q h;obtain⟨ops,dr,Qi,h1,h2⟩:=ihx (Exit.then (y.wp P Q) Q) h;exact⟨ops,dr,Qi,by unfold fT;rw[h1],fun hw=>wp_seq (h2 hw)⟩
 | block j c ih=>
   intro Q h;obtain⟨ops,dr,Qi,h1,h2⟩:=ih (Exit.inBlock j Q) h;exact⟨ops,dr,Qi,h1,fun hw=>wp_block (h2 hw)⟩
 | _=>intro Q h;cases h
section
variable {B:fK} {n:Nat} {Vo:Nat→Value}
structure xU (C:Ctx) (B:fK) (n:Nat) (Vo:Nat→Value) (k:Kc C) (Q:nk):Prop where
 normal:∀S a w,k .normal S→Holds C B n Vo S a w→Q .normal a w
 exit:∀id S a w,k (.exit id) S→Holds C B n Vo S a w→Q (.exit id) a w
 ret:∀S a w,k .ret S→Holds C B n Vo S a w→Q .ret a w
 panic:∀c d v a w,Q (.panic c) (Act.put a d v) w→Q (.panic c) a w
def codeOk (n:Nat) (Q:bE C):Code→Prop
 | .region id ops dr=>(∀(j:Nat) (o:Oper),ops[j]? =some o→jU n o)∧(dr=true→∃brk t,lookup id Q.iH=some (brk,t)∧yl ops brk t=true)
 | .seq a b=>codeOk n Q a∧codeOk n Q b
 | .cond x a b=>aT n x=true∧codeOk n Q a∧codeOk n Q b
 | .block _ c=>codeOk n Q c
 | .loop c=>codeOk n Q c
 | _=>True
structure xn (P:Program) (C:Ctx) (B:fK) (n:Nat) (Vo:Nat→Value) (Q:bE C) (K:iR C):Prop where
 gD:Good P C
 mixed:P.follows .mixedOrders=true
 call:∀o,jU n o→(gx o.op).isSome=true→∀Q',kL P C B n Vo Q K Q' o
 still:∀w1,Kept B w1→∀o,jU n o→(gx o.op).isSome=true→∀Q',kL P C (aa.still w1) n Vo Q K Q' o
theorem rE {Q:bE C} {K:iR C} (G:xn P C B n Vo Q K) {id:Nat} {ops:Array Oper} {dr:Bool} (hok:codeOk n Q (.region id ops dr)) {k:St C→Prop} {Q':nk}
 (hk:∀S a w,k S→Holds C B n Vo S a w→Q' .normal a w) (hp:∀c d v a w,Q' (.panic c) (Act.put a d v) w→Q' (.panic c) a w) {S:St C} {a:Act} {w:World} (h:Holds C B n Vo S a w) (he:rC C Q K id ops dr S k):(Code.region id ops dr).wp P Q' a w:=by
 cases dr with
 | false=>
   refine wp_region ?_;have:=lS G.gD Q K (Q':=Q') (k:=k) ops hok.1 (fun j o ho hc=>G.call o (hok.1 j o ho) hc Q') (fun S' a' w' hks h'=>hk S' a' w' hks h') ops.toList 0 (by simp) h he
   simpa [List.range_eq_range']using this
 | true=>
   obtain⟨brk,t,h1,h2⟩:=hok.2 rfl;unfold rC at he;rw[h1]at he;exact yX G.gD Q K G.mixed h2 hok.1 (fun j o ho hc=>G.call o (hok.1 j o ho) hc Q') (fun w1 hk1 j o ho hc=>G.still w1 hk1 o (hok.1 j o ho) hc Q') hp (fun S' a' w' hks h'=>hk S' a' w' hks h') h he
theorem rA {Q:bE C} {K:iR C} (G:xn P C B n Vo Q K) (J:Nat→St C→Prop) (c0:Code) (Q0:nk)
 (hJ:∀id S,J id S→∀a w,Holds C B n Vo S a w→∀ops dr Qi,fT P id c0 Q0=some (ops,dr,Qi)→(Code.region id ops dr).wp P Qi a w):
 ∀(c:Code) (k:Kc C) (Q':nk) {S:St C} {a:Act} {w:World},codeOk n Q c→(ids c).Nodup→AL P c0 Q0 c Q'→xU C B n Vo k Q'→ko C Q K J c k S→Holds C B n Vo S a w→c.wp P Q' a w:=by
 intro c
 induction c with
 | skip=>intro k Q' S a w _ _ _ hk he h;exact wp_skip (hk.normal _ _ _ he h)
 | region id ops dr=>
   intro k Q' S a w hok hn hemb hk he h;unfold ko at he;split at he
   ·rename_i live hl;exact hJ id _ he a w ((h.xR Q _).keep live _ _) ops dr Q' (hemb id _ (by unfold fT;rw[if_pos rfl]))
   ·exact rE G hok (fun S a w hks h'=>hk.normal S a w hks h') hk.panic h he
 | seq x y ihx ihy=>
   intro k Q' S a w hok hn hemb hk he h;refine wp_seq (ihx (andThen (ko C Q K J y k) k) _ hok.1 (List.nodup_append.1 hn).1 hemb.zh ⟨fun S a w hks h'=> ?_,fun id S a w hks h'=>hk.exit id S a w hks h',fun S a w hks h'=>hk.ret S a w hks h',fun c d v a w hq=>hk.panic c d v a w hq⟩ he h);exact ihy _ _ hok.2 (List.nodup_append.1 hn).2.1 (hemb.si hn) hk hks h'
 | cond x c d ihc ihd=>
   intro k Q' S a w hok hn hemb hk he h;unfold ko at he;split at he
   ·rename_i t ht;have hev:=h.eval hok.1 ht;split at he
    ·rename_i htt;subst htt;exact wp_cond_true hev (ihc _ _ hok.2.1 (List.nodup_append.1 hn).1 hemb.xg hk he h)
    ·rename_i htt;have htf:t=false:=by simpa using htt
     subst htf;exact wp_cond_false hev (ihd _ _ hok.2.2 (List.nodup_append.1 hn).2.1 (hemb.uZ hn) hk he h)
   ·exact he.elim
 | block id c ih=>
   intro k Q' S a w hok hn hemb hk he h;refine wp_block (ih (inBlock id k) _ hok hn (fun i r hr=>hemb i r hr) ⟨fun S a w hks h'=>hk.normal S a w hks h',fun i S a w hks h'=> ?_,fun S a w hks h'=>hk.ret S a w hks h',fun c d v a w hq=>hk.panic c d v a w hq⟩ he h);show Exit.inBlock id Q' (.exit i) a w;unfold Exit.inBlock;simp only;have hks:(if i=id then k .normal S else k (.exit i) S):=hks;split
   ·rename_i hi;rw[if_pos hi]at hks;exact hk.normal S a w hks h'
   ·rename_i hi;rw[if_neg hi]at hks;exact hk.exit i S a w hks h'
 | loop c ih=>
   intro k Q' S a w hok hn hemb hk he h;unfold ko jump at he;split at he
   ·rename_i i hi;split at he
    ·rename_i live hl;obtain⟨ops,dr,Qi,h1,h2⟩:=yC (P:=P) (a:=a) (w:=w) c (Exit.then (pa P c Q') Q') hi;exact An (h2 (hJ i _ he a w ((h.xR Q _).keep live _ _) ops dr Qi (hemb i _ h1)))
    ·exact he.elim
   ·exact he.elim
 | exit id=>intro k Q' S a w _ _ _ hk he h;exact wp_exit (hk.exit _ _ _ _ he h)
 | ret=>intro k Q' S a w _ _ _ hk he h;exact wp_ret (hk.ret _ _ _ he h)
 | _=>intro k Q' S a w _ _ _ hk he h;exact False.elim he
theorem yI {Q:bE C} {K:iR C} (G:xn P C B n Vo Q K) (J:Nat→St C→Prop) (c0:Code) (Q0:nk)
 (hJ:∀id S,J id S→∀a w,Holds C B n Vo S a w→∀ops dr Qi,fT P id c0 Q0=some (ops,dr,Qi)→(Code.region id ops dr).wp P Qi a w) (id:Nat):
 ∀(c:Code) (k:Kc C) (Q':nk) {ops:Array Oper} {dr:Bool} {ki:Kc C},codeOk n Q c→(ids c).Nodup→AL P c0 Q0 c Q'→xU C B n Vo k Q'→kU C Q K J id c k=some (ops,dr,ki)→
  ∃Qi,fT P id c Q'=some (ops,dr,Qi)∧xU C B n Vo ki Qi∧codeOk n Q (.region id ops dr):=by
 intro c
 have none_of:∀(c:Code) (k k':Kc C) (Q':nk),kU C Q K J id c k=none→fT P id c Q'=none:=by
  intro c
  induction c with
  | region i ops dr=>
    intro k k' Q' h;unfold kU at h;unfold fT;split at h
    ·cases h
    ·rename_i hi;rw[if_neg hi]
  | seq x y ihx ihy=>
    intro k k' Q' h;unfold kU at h;split at h
    ·cases h
    ·rename_i hx;unfold fT;rw[ihx _ k _ hx];exact ihy _ k _ h
  | cond z x y ihx ihy=>
    intro k k' Q' h;unfold kU at h;split at h
    ·cases h
    ·rename_i hx;unfold fT;rw[ihx _ k _ hx];exact ihy _ k _ h
  | block i c ih=>intro k k' Q' h;exact ih _ k _ h
  | loop c ih=>intro k k' Q' h;exact ih _ k _ h
  | _=>intro k k' Q' h;rfl
 induction c with
 | region i ops dr=>
   intro k Q' ops' dr' ki hok hn hemb hk hf;unfold kU at hf;split at hf
   ·rename_i hi;cases hf;subst hi;exact⟨Q',by unfold fT;rw[if_pos rfl],hk,hok⟩
   ·cases hf
 | seq x y ihx ihy=>
   intro k Q' ops dr ki hok hn hemb hk hf;unfold kU at hf;split at hf
   ·rename_i r hr;cases hf;obtain⟨Qi,h1,h2,h3⟩:=ihx (andThen (ko C Q K J y k) k) (Exit.then (y.wp P Q') Q') hok.1 (List.nodup_append.1 hn).1 hemb.zh ⟨fun S a w hks h'=>rA G J c0 Q0 hJ y k Q' hok.2 (List.nodup_append.1 hn).2.1 (hemb.si hn) hk hks h',fun id S a w hks h'=>hk.exit id S a w hks h',fun S a w hks h'=>hk.ret S a w hks h',fun c d v a w hq=>hk.panic c d v a w hq⟩ hr;exact⟨Qi,by unfold fT;rw[h1],h2,h3⟩
   ·rename_i hr;obtain⟨Qi,h1,h2,h3⟩:=ihy _ Q' hok.2 (List.nodup_append.1 hn).2.1 (hemb.si hn) hk hf;exact⟨Qi,by unfold fT;rw[none_of _ _ k _ hr];exact h1,h2,h3⟩
 | cond z x y ihx ihy=>
   intro k Q' ops dr ki hok hn hemb hk hf;unfold kU at hf;split at hf
   ·rename_i r hr;cases hf;obtain⟨Qi,h1,h2,h3⟩:=ihx _ Q' hok.2.1 (List.nodup_append.1 hn).1 hemb.xg hk hr;exact⟨Qi,by unfold fT;rw[h1],h2,h3⟩
   ·rename_i hr;obtain⟨Qi,h1,h2,h3⟩:=ihy _ Q' hok.2.2 (List.nodup_append.1 hn).2.1 (hemb.uZ hn) hk hf;exact⟨Qi,by unfold fT;rw[none_of _ _ k _ hr];exact h1,h2,h3⟩
 | block i c ih=>
   intro k Q' ops dr ki hok hn hemb hk hf;refine ih (inBlock i k) (Exit.inBlock i Q') hok hn (fun j r hr=>hemb j r hr) ⟨fun S a w hks h'=>hk.normal S a w hks h',fun j S a w hks h'=> ?_,fun S a w hks h'=>hk.ret S a w hks h',fun c d v a w hq=>hk.panic c d v a w hq⟩ hf;show Exit.inBlock i Q' (.exit j) a w;unfold Exit.inBlock;simp only;have hks:(if j=i then k .normal S else k (.exit j) S):=hks;split
   ·rename_i hi;rw[if_pos hi]at hks;exact hk.normal S a w hks h'
   ·rename_i hi;rw[if_neg hi]at hks;exact hk.exit j S a w hks h'
 | loop c ih=>
   intro k Q' ops dr ki hok hn hemb hk hf;refine ih (andThen (jump Q J (first c)) k) (Exit.then (pa P c Q') Q') hok hn (fun j r hr=>hemb j r hr) ⟨fun S a w hks h'=> ?_,fun j S a w hks h'=>hk.exit j S a w hks h',fun S a w hks h'=>hk.ret S a w hks h',fun c d v a w hq=>hk.panic c d v a w hq⟩ hf;have hks:jump Q J (first c) S:=hks;show pa P c Q' a w;unfold jump at hks;split at hks
   ·rename_i i hi;split at hks
    ·rename_i live hl;obtain⟨ops,dr,Qi,h1,h2⟩:=yC (P:=P) (a:=a) (w:=w) c (Exit.then (pa P c Q') Q') hi;exact Bh (h2 (hJ i _ hks a w ((h'.xR Q _).keep live _ _) ops dr Qi (hemb i _ h1)))
    ·exact hks.elim
   ·exact hks.elim
 | _=>intro k Q' ops dr ki _ _ _ _ hf;cases hf
end
end Go.Proofs.YtmapddgocpkgeaaGreat.aa
