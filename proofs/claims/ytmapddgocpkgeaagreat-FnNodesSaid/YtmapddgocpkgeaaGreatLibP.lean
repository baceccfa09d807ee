/- Plain lists and numbers, as the laws' proofs meet them: loops over lists, reading, writing, counting. No conditions. -/
import Derived.Test.YtmapddgocpkgeaaGreatLibC
import Derived.IntWalk
namespace Go.Proofs.YtmapddgocpkgeaaGreat.aa
open Go.RowKit Go.IntWalk
set_option linter.unusedVariables false
theorem af {A B:Type} (a:A) (f:A→Option B):(some a).bind f=f a:=id rfl
namespace Tr
variable {X R:Type}
theorem aj (rec:X→Option R) (r:R):run rec (.ret r)=some r:=id rfl
theorem ag (rec:X→Option R) (b:Bool) (t e:Tr X R):run rec (.ite b t e)=if b=true then run rec t else run rec e:=id rfl
theorem al (rec:X→Option R) (p:Prop) [Decidable p] (t:Tr X R):run rec (.aC p t)=if p then run rec t else none:=id rfl
theorem ah (rec:X→Option R) {A:Type} (T:Told A) (t:A→Tr X R):run rec (.call T t)=T.f.bind fun a=>run rec (t a):=id rfl
theorem ai (rec:X→Option R) (x:X):run rec (.jump x)=rec x:=id rfl
theorem fq (rec:X→Option R) (t e:Tr X R):run rec (.both t e)=aa.both (run rec t) (run rec e):=id rfl
theorem bf (rec:X→Option R) (t:Tr X R):run rec (.last t)=run rec t:=id rfl
theorem xL (rec:X→Option R) {A:Type} (xs:List A) (t e:Tr X R):run rec (.wq xs t e)=if xs.isEmpty=true then aa.both (run rec t) (run rec e)else run rec e:=id rfl
theorem gL (rec:X→Option R) {A:Type} (a:A) (t:A→Tr X R):run rec (.val a t)=run rec (t a):=id rfl
theorem Cx (rec:X→Option R):run rec (.fail:Tr X R)=none:=id rfl
end Tr
attribute [simp] Tr.aj Tr.ag Tr.al Tr.ah Tr.ai Tr.fq Tr.bf Tr.xL Tr.gL Tr.Cx cB
theorem cd {x:Int} (h: -9223372036854775808≤x∧x≤9223372036854775807):IntKind.wrap .i64 x=x:=i64_in x h
theorem aN {n:Nat} (h:n<4611686018427387904):IntKind.wrap .i64 ((n:Int)+1)=((n+1:Nat):Int):=by
 rw[i64_in _ (by omega)];rfl
theorem aU {A:Type} {l:List A} {n:Nat} {z:A} (h:n<l.length):l.getD ((n:Int)).toNat z=l[n]:=by
 simp[List.getD,h]
theorem bh {n m:Nat} (h:n<m):decide ((n:Int)<(m:Int))=true:=decide_eq_true (by omega)
theorem dv {n:Nat}:decide ((n:Int)<(n:Int))=false:=decide_eq_false (by omega)
theorem bW {n m:Nat} (h:n<m):(0:Int)≤(n:Int)∧(n:Int)<(m:Int):=⟨by omega,by omega⟩
def scan {A S R:Type} (f:S→A→S ⊕ R) (g:S→R):List A→S→R
 | [],s=>g s
 | a::l,s=>match f s a with
   | .inl s'=>scan f g l s'
   | .inr r=>r
theorem Bb {A S R:Type} (l:List A) (f:S→A→S ⊕ R) (g:S→R) (Inv:Nat→S→Prop) (L:Nat→S→Option R)
 (hstep:∀i (h:i<l.length) s,Inv i s→(∀s',f s l[i]= .inl s'→L i s=L (i+1) s'∧Inv (i+1) s')∧∀r,f s l[i]= .inr r→L i s=some r)
 (hend:∀s,Inv l.length s→L l.length s=some (g s)):∀(n i:Nat) (s:S),i+n=l.length→Inv i s→L i s=some (scan f g (l.drop i) s):=by
 intro n
 induction n with
 | zero=>intro i s hl hi;obtain rfl:i=l.length:=(by omega);rw[List.drop_length];exact hend s hi
 | succ n ih=>
   intro i s hl hi;have h:i<l.length:=by omega
   obtain⟨h1,h2⟩:=hstep i h s hi;rw[List.drop_eq_getElem_cons h];unfold scan;cases hf:f s l[i]with
   | inl s'=>
     obtain⟨e,hi'⟩:=h1 s' hf;rw[e,ih (i+1) s' (by omega) hi']
   | inr r=>exact h2 r hf
theorem wW {A S R:Type} (l:List A) (f:S→A→S ⊕ R) (g:S→R) (Inv:Nat→S→Prop) (L:Nat→S→Option R) (s:S) (h0:Inv 0 s)
 (hstep:∀i (h:i<l.length) s,Inv i s→(∀s',f s l[i]= .inl s'→L i s=L (i+1) s'∧Inv (i+1) s')∧∀r,f s l[i]= .inr r→L i s=some r)
 (hend:∀s,Inv l.length s→L l.length s=some (g s)):L 0 s=some (scan f g l s):=
 Bb l f g Inv L hstep hend l.length 0 s (by omega) h0
theorem DC {R:Type} (n:Nat) (r:R) (L:Nat→Option R) (hstep:∀i,i<n→L i=L (i+1)) (hend:L n=some r):L 0=some r:=by
 have key:∀(m i:Nat),i+m=n→L i=some r:=by
  intro m
  induction m with
  | zero=>intro i hi;obtain rfl:i=n:=(by omega);exact hend
  | succ m ih=>intro i hi;rw[hstep i (by omega),ih (i+1) (by omega)]
 exact key n 0 (by omega)
theorem A4 {R:Type} (n:Nat) (r:R) (L:Nat→Option R) (hstep:∀i,i<n→L i=L (i+1)∨L i=some r) (hend:L n=some r):L 0=some r:=by
 have key:∀(m i:Nat),i+m=n→L i=some r:=by
  intro m
  induction m with
  | zero=>intro i hi;obtain rfl:i=n:=(by omega);exact hend
  | succ m ih=>
    intro i hi;rcases hstep i (by omega)with e | e
    ·rw[e,ih (i+1) (by omega)]
    ·exact e
 exact key n 0 (by omega)
theorem oM {A:Type} (l:List A) (p:A→Bool) (g:Bool) (L:Nat→Option Bool)
 (hstep:∀i (h:i<l.length),L i=if p l[i]=true then L (i+1)else some false) (hend:L l.length=some g):L 0=some (l.all p&&g):=by
 have key:∀(n i:Nat),i+n=l.length→L i=some ((l.drop i).all p&&g):=by
  intro n
  induction n with
  | zero=>intro i hi;obtain rfl:i=l.length:=(by omega);rw[List.drop_length];exact hend
  | succ n ih=>
    intro i hi;have h:i<l.length:=by omega
    rw[List.drop_eq_getElem_cons h,List.all_cons,hstep i h]
    by_cases hp:p l[i]=true
    ·rw[if_pos hp,hp,Bool.true_and];exact ih (i+1) (by omega)
    ·rw[if_neg hp,Bool.eq_false_iff.mpr hp];rfl
 exact key l.length 0 (by omega)
theorem rW {A:Type} (l:List A) (p:A→Bool) (L:Nat→Option Int)
 (hstep:∀i (h:i<l.length),L i=if p l[i]=true then some (i:Int)else L (i+1)) (hend:L l.length=some (-1)):∃r,L 0=some r∧decide (r≥0)=l.any p:=by
 have key:∀(n i:Nat),i+n=l.length→∃r,L i=some r∧decide (r≥0)=(l.drop i).any p:=by
  intro n
  induction n with
  | zero=>intro i hi;obtain rfl:i=l.length:=(by omega);exact⟨-1,hend,by rw[List.drop_length];rfl⟩
  | succ n ih=>
    intro i hi;have h:i<l.length:=by omega
    rw[List.drop_eq_getElem_cons h,List.any_cons,hstep i h]
    by_cases hp:p l[i]=true
    ·rw[if_pos hp,hp,Bool.true_or];exact⟨_,rfl,decide_eq_true (by omega)⟩
    ·rw[if_neg hp,Bool.eq_false_iff.mpr hp,Bool.false_or];exact ih (i+1) (by omega)
 exact key l.length 0 (by omega)
theorem DJ {A B R:Type} (l:List A) (f:A→B) (z:B) (g:List B→R) (L:Nat→List B→Option R)
 (hstep:∀i (h:i<l.length) s,s.length=l.length→L i s=L (i+1) (s.set i (f l[i]))) (hend:∀s,L l.length s=some (g s)):L 0 (List.replicate l.length z)=some (g (l.map f)):=by
 have key:∀(n i:Nat) s,i+n=l.length→s.length=l.length→s.take i=(l.take i).map f→L i s=some (g (l.map f)):=by
  intro n
  induction n with
  | zero=>
    intro i s hi hs ht;obtain rfl:i=l.length:=by omega
    have e:s=l.map f:=by rw[List.take_length]at ht;rw[←ht,←hs,List.take_length]
    rw[hend,e]
  | succ n ih=>
    intro i s hi hs ht;have h:i<l.length:=by omega
    rw[hstep i h s hs];refine ih (i+1) _ (by omega) (by rw[List.length_set,hs]) ?_;rw[List.take_add_one,List.take_set_of_le (Nat.le_refl i),ht,List.getElem?_set_self (by omega),List.take_add_one,List.map_append,List.getElem?_eq_getElem h];rfl
 exact key l.length 0 _ (by omega) (by rw[List.length_replicate]) (by simp)
theorem zE {A B R:Type} (l:List A) (f:A→B) (g:List B→R) (L:Nat→List B→Option R) (t:List B)
 (hstep:∀i (h:i<l.length),L i (t++(l.take i).map f)=L (i+1) ((t++(l.take i).map f)++[f l[i]])) (hend:∀s,L l.length s=some (g s)):L 0 t=some (g (t++l.map f)):=by
 have key:∀(n i:Nat),i+n=l.length→L i (t++(l.take i).map f)=some (g (t++l.map f)):=by
  intro n
  induction n with
  | zero=>intro i hi;obtain rfl:i=l.length:=(by omega);rw[hend,List.take_length]
  | succ n ih=>
    intro i hi;have h:i<l.length:=by omega
    rw[hstep i h,←ih (i+1) (by omega),List.take_add_one,List.getElem?_eq_getElem h,List.map_append,List.append_assoc];rfl
 have:=key l.length 0 (by omega)
 simpa using this
theorem AB {A:Type} [DecidableEq A] (a b:List A) (hab:a.length=b.length) (L:Nat→Option Bool)
 (hstep:∀i (h:i<a.length),L i=if a[i]=b[i]then L (i+1)else some false) (hend:L a.length=some true):L 0=some (decide (a=b)):=by
 have key:∀(n i:Nat),i+n=a.length→L i=some (decide (a.drop i=b.drop i)):=by
  intro n
  induction n with
  | zero=>intro i hi;obtain rfl:i=a.length:=(by omega);rw[hend,List.drop_length,hab,List.drop_length];simp
  | succ n ih=>
    intro i hi;have h:i<a.length:=by omega
    rw[hstep i h,List.drop_eq_getElem_cons h,List.drop_eq_getElem_cons (by omega:i<b.length)]
    by_cases e:a[i]=b[i]
    ·rw[if_pos e,ih (i+1) (by omega)];exact congrArg some (decide_eq_decide.mpr ⟨fun h=>by rw[e,h],fun h=>(List.cons.inj h).2⟩)
    ·rw[if_neg e,decide_eq_false (fun h=>e (List.cons.inj h).1)]
 simpa using key a.length 0 (by omega)
def tf {A S:Type} (next:S→A→S) (val:S→A→A):S→List A→List A
 | _,[]=>[]
 | s,a::l=>val s a::tf next val (next s a) l
theorem zw {A S:Type} (next:S→A→S) (val:S→A→A):∀(l:List A) (s:S),(tf next val s l).length=l.length
 | [],_=>rfl
 | a::l,s=>by rw[tf,List.length_cons,List.length_cons,zw next val l]
theorem DG {A S R:Type} (l:List A) (next:S→A→S) (val:S→A→A) (z:A) (Inv:Nat→S→Prop) (g:S→List A→R) (L:Nat→S→List A→Option R) (s:S) (h0:Inv 0 s)
 (hstep:∀i (h:i<l.length) s m,Inv i s→m.length=l.length→m.getD ((i:Int)).toNat z=l[i]→L i s m=L (i+1) (next s l[i]) (m.set i (val s l[i]))∧Inv (i+1) (next s l[i]))
 (hend:∀s m,Inv l.length s→m.length=l.length→L l.length s m=some (g s m)):L 0 s l=some (g (l.foldl next s) (tf next val s l)):=by
 have key:∀(n i:Nat) s p,i+n=l.length→p.length=i→Inv i s→L i s (p++l.drop i)=some (g ((l.drop i).foldl next s) (p++tf next val s (l.drop i))):=by
  intro n
  induction n with
  | zero=>
    intro i s p hi hp hI;obtain rfl:i=l.length:=by omega
    rw[List.drop_length,List.append_nil,hend s p hI hp];simp[tf]
  | succ n ih=>
    intro i s p hi hp hI;have h:i<l.length:=by omega
    have hm:(p++l.drop i).length=l.length:=by rw[List.length_append,List.length_drop];omega
    have hg:(p++l.drop i).getD ((i:Int)).toNat z=l[i]:=by
     rw[List.drop_eq_getElem_cons h,List.getD,show((i:Int)).toNat=p.length from by omega,List.getElem?_append_right (Nat.le_refl _),Nat.sub_self];rfl
    obtain⟨e,hI'⟩:=hstep i h s _ hI hm hg
    have hs:(p++l.drop i).set i (val s l[i])=(p++[val s l[i]])++l.drop (i+1):=by
     rw[List.drop_eq_getElem_cons h,List.set_append_right _ _ (by omega),hp,Nat.sub_self,List.set_cons_zero,List.append_assoc];rfl
    rw[e,hs,ih (i+1) _ _ (by omega) (by rw[List.length_append,hp];rfl) hI'];rw[List.drop_eq_getElem_cons h,List.foldl_cons,tf,List.append_assoc];rfl
 simpa using key l.length 0 s [] (by omega) rfl h0
theorem DB {A S R:Type} (l:List A) (next:S→A→S) (val:S→A→A) (z:A) (Inv:Nat→S→Prop) (g:S→R) (s0:S) (L:Nat→S→Option R) (h0:Inv 0 s0)
 (hstep:∀i (h:i<l.length) s,Inv i s→(tf next val s0 l).getD ((i:Int)).toNat z=val s l[i]→L i s=L (i+1) (next s l[i])∧Inv (i+1) (next s l[i]))
 (hend:∀s,Inv l.length s→L l.length s=some (g s)):L 0 s0=some (g (l.foldl next s0)):=by
 have key:∀(n i:Nat) s p,i+n=l.length→p.length=i→Inv i s→tf next val s0 l=p++tf next val s (l.drop i)→L i s=some (g ((l.drop i).foldl next s)):=by
  intro n
  induction n with
  | zero=>
    intro i s p hi hp hI hm;obtain rfl:i=l.length:=by omega
    rw[List.drop_length,hend s hI];rfl
  | succ n ih=>
    intro i s p hi hp hI hm;have h:i<l.length:=by omega
    rw[List.drop_eq_getElem_cons h,tf]at hm
    have hg:(tf next val s0 l).getD ((i:Int)).toNat z=val s l[i]:=by
     rw[hm,List.getD,show((i:Int)).toNat=p.length from by omega,List.getElem?_append_right (Nat.le_refl _),Nat.sub_self];rfl
    obtain⟨e,hI'⟩:=hstep i h s hI hg;rw[e,ih (i+1) _ (p++[val s l[i]]) (by omega) (by rw[List.length_append,hp];rfl) hI' (by rw[hm,List.append_assoc];rfl),List.drop_eq_getElem_cons h,List.foldl_cons]
 exact key l.length 0 s0 [] (by omega) rfl h0 (by simp)
theorem DA {A S:Type} (l:List A) (next:S→A→S) (Inv:Nat→S→Prop) (s:S) (h0:Inv 0 s) (hstep:∀i (h:i<l.length) s,Inv i s→Inv (i+1) (next s l[i])):Inv l.length (l.foldl next s):=by
 have key:∀(n i:Nat) s,i+n=l.length→Inv i s→Inv l.length ((l.drop i).foldl next s):=by
  intro n
  induction n with
  | zero=>intro i s hi hI;obtain rfl:i=l.length:=(by omega);rw[List.drop_length];exact hI
  | succ n ih=>
    intro i s hi hI;have h:i<l.length:=by omega
    rw[List.drop_eq_getElem_cons h,List.foldl_cons];exact ih (i+1) _ (by omega) (hstep i h s hI)
 exact key l.length 0 s (by omega) h0
end Go.Proofs.YtmapddgocpkgeaaGreat.aa
