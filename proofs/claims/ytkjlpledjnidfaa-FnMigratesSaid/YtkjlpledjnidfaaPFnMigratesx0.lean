-- written by xprint.py for this seat
import Derived.Test.YtkjlpledjnidfaaProg
import Derived.Below
import Derived.Deep.Draws
import Derived.Deep.AppendLies
import Derived.Maps.AppendAt
import Derived.OwnWalk
import Derived.Laws.BytesArg
import Derived.Laws.MakeOwn
import Derived.Laws.OwnMore
import Derived.Deep.OwnRows
import Derived.Tactics
import Derived.Lib.ConvBytes
import Derived.Laws.Slices
import Derived.WalkKit
import Derived.KernelRfl
import Derived.RowKit3
import Derived.Deep.LoopGhost
import Derived.Deep.QuietTactic
import Derived.BigQuiet
import Derived.WideLaws
import Derived.Deep.DeepCutAuto
import Derived.Deep.CutBlock
import Derived.Deep.RegionHeld3
import Derived.Laws.Rows
import Derived.Lib.AppendStr
import Derived.ArgAppend
import Derived.Laws.IdiomCopy
import Derived.OrdersHeld
import Derived.Laws.BitsLemmas
import Derived.RowKit
import Derived.Lib.SliceRun
import Derived.Test.YtkjlpledjnidfaaWWords
import Derived.Test.YtkjlpledjnidfaaWLast
import Derived.Test.YtkjlpledjnidfaaWTab
import Derived.Test.YtkjlpledjnidfaaWFour
import Derived.Test.YtkjlpledjnidfaaWQPut
import Derived.Test.YtkjlpledjnidfaaWApart
import Derived.Test.YtkjlpledjnidfaaWArr
import Derived.Test.YtkjlpledjnidfaaWZeros
import Derived.Test.YtkjlpledjnidfaaWFoot
import Derived.Test.YtkjlpledjnidfaaWKept
import Derived.Test.YtkjlpledjnidfaaWShare
import Derived.Test.YtkjlpledjnidfaaWN
import Derived.Test.YtkjlpledjnidfaaWFootNe
import Derived.Test.YtkjlpledjnidfaaWAt
import Derived.Test.YtkjlpledjnidfaaWEqStruct
import Derived.Test.YtkjlpledjnidfaaWRepsOne
import Derived.Test.YtkjlpledjnidfaaWInv
import Derived.Test.YtkjlpledjnidfaaWInvWords
import Derived.Test.YtkjlpledjnidfaaWGuard
import Derived.Test.YtkjlpledjnidfaaWNEv
import Derived.Test.YtkjlpledjnidfaaWMore
namespace Go.Proofs.Ytkjlpledjnidfaa.PFnMigrates
open Go.RowKit Go.Proofs.YtkjlpledjnidfaaW.PrintWords Go.Proofs.YtkjlpledjnidfaaW.PrintLast Go.Proofs.YtkjlpledjnidfaaW.PrintMore
attribute [local go_sem] max2_int min2_int max_two min_two max_three min_three max_four min_four   -- for this text's walks alone
set_option linter.unusedVariables false
set_option linter.unusedSimpArgs false



def errW : Option Int → Value
 | none => .nilIface
 | some c => .iface 0 (.int .i64 c)
theorem errW_none : errW none = .nilIface := rfl
theorem errW_some (c : Int) : errW (some c) = .iface 0 (.int .i64 c) := rfl


section
instance pk0 {w : World} : Nonempty (Below w.heap.size w w) := ⟨Below.refl _ _⟩
instance pkA {w W : World} {o : Obj} [n : Nonempty (Below w.heap.size w W)] : Nonempty (Below w.heap.size w (W.alloc o)) := n.elim fun b => ⟨below_alloc b o⟩
instance pkN {w W : World} {m : Nat} [n : Nonempty (Below w.heap.size w W)] : Nonempty (Below w.heap.size w (W.drewN m)) := n.elim fun b => ⟨pw_below_drewN b m⟩
instance pk1 {w W : World} [n : Nonempty (Below w.heap.size w W)] : Nonempty (Below w.heap.size w W.drew) := n.elim fun b => ⟨below_drew1 b⟩
theorem pkb {w W : World} {g : Nat} {o : Obj} [n : Nonempty (Below w.heap.size w W)] (h : w.heap[g]? = some o) : W.heap[g]? = some o := n.elim fun b => (b.block g (blk_lt h)).trans h
theorem pc0 {w : World} {g : Nat} {t : TypeId} {v0 : Value} {l : List Value} (h : w.heap[g]? = some (.cells (List.toArray (v0 :: l)) t (0, 0))) : w.cell? ⟨g, 0, none⟩ = some v0 := (blk_cell h 0).trans (by simp)
theorem pc1 {w : World} {g : Nat} {t : TypeId} {v0 v1 : Value} {l : List Value} (h : w.heap[g]? = some (.cells (List.toArray (v0 :: v1 :: l)) t (0, 0))) : w.cell? ⟨g, 1, none⟩ = some v1 := (blk_cell h 1).trans (by simp)
theorem pc2 {w : World} {g : Nat} {t : TypeId} {v0 v1 v2 : Value} {l : List Value} (h : w.heap[g]? = some (.cells (List.toArray (v0 :: v1 :: v2 :: l)) t (0, 0))) : w.cell? ⟨g, 2, none⟩ = some v2 := (blk_cell h 2).trans (by simp)
theorem pc3 {w : World} {g : Nat} {t : TypeId} {v0 v1 v2 v3 : Value} {l : List Value} (h : w.heap[g]? = some (.cells (List.toArray (v0 :: v1 :: v2 :: v3 :: l)) t (0, 0))) : w.cell? ⟨g, 3, none⟩ = some v3 := (blk_cell h 3).trans (by simp)
theorem pc4 {w : World} {g : Nat} {t : TypeId} {v0 v1 v2 v3 v4 : Value} {l : List Value} (h : w.heap[g]? = some (.cells (List.toArray (v0 :: v1 :: v2 :: v3 :: v4 :: l)) t (0, 0))) : w.cell? ⟨g, 4, none⟩ = some v4 := (blk_cell h 4).trans (by simp)
theorem pc5 {w : World} {g : Nat} {t : TypeId} {v0 v1 v2 v3 v4 v5 : Value} {l : List Value} (h : w.heap[g]? = some (.cells (List.toArray (v0 :: v1 :: v2 :: v3 :: v4 :: v5 :: l)) t (0, 0))) : w.cell? ⟨g, 5, none⟩ = some v5 := (blk_cell h 5).trans (by simp)
theorem pc6 {w : World} {g : Nat} {t : TypeId} {v0 v1 v2 v3 v4 v5 v6 : Value} {l : List Value} (h : w.heap[g]? = some (.cells (List.toArray (v0 :: v1 :: v2 :: v3 :: v4 :: v5 :: v6 :: l)) t (0, 0))) : w.cell? ⟨g, 6, none⟩ = some v6 := (blk_cell h 6).trans (by simp)
theorem pc7 {w : World} {g : Nat} {t : TypeId} {v0 v1 v2 v3 v4 v5 v6 v7 : Value} {l : List Value} (h : w.heap[g]? = some (.cells (List.toArray (v0 :: v1 :: v2 :: v3 :: v4 :: v5 :: v6 :: v7 :: l)) t (0, 0))) : w.cell? ⟨g, 7, none⟩ = some v7 := (blk_cell h 7).trans (by simp)
theorem pc8 {w : World} {g : Nat} {t : TypeId} {v0 v1 v2 v3 v4 v5 v6 v7 v8 : Value} {l : List Value} (h : w.heap[g]? = some (.cells (List.toArray (v0 :: v1 :: v2 :: v3 :: v4 :: v5 :: v6 :: v7 :: v8 :: l)) t (0, 0))) : w.cell? ⟨g, 8, none⟩ = some v8 := (blk_cell h 8).trans (by simp)
theorem pc9 {w : World} {g : Nat} {t : TypeId} {v0 v1 v2 v3 v4 v5 v6 v7 v8 v9 : Value} {l : List Value} (h : w.heap[g]? = some (.cells (List.toArray (v0 :: v1 :: v2 :: v3 :: v4 :: v5 :: v6 :: v7 :: v8 :: v9 :: l)) t (0, 0))) : w.cell? ⟨g, 9, none⟩ = some v9 := (blk_cell h 9).trans (by simp)
theorem pc10 {w : World} {g : Nat} {t : TypeId} {v0 v1 v2 v3 v4 v5 v6 v7 v8 v9 v10 : Value} {l : List Value} (h : w.heap[g]? = some (.cells (List.toArray (v0 :: v1 :: v2 :: v3 :: v4 :: v5 :: v6 :: v7 :: v8 :: v9 :: v10 :: l)) t (0, 0))) : w.cell? ⟨g, 10, none⟩ = some v10 := (blk_cell h 10).trans (by simp)
theorem pc11 {w : World} {g : Nat} {t : TypeId} {v0 v1 v2 v3 v4 v5 v6 v7 v8 v9 v10 v11 : Value} {l : List Value} (h : w.heap[g]? = some (.cells (List.toArray (v0 :: v1 :: v2 :: v3 :: v4 :: v5 :: v6 :: v7 :: v8 :: v9 :: v10 :: v11 :: l)) t (0, 0))) : w.cell? ⟨g, 11, none⟩ = some v11 := (blk_cell h 11).trans (by simp)
theorem pc12 {w : World} {g : Nat} {t : TypeId} {v0 v1 v2 v3 v4 v5 v6 v7 v8 v9 v10 v11 v12 : Value} {l : List Value} (h : w.heap[g]? = some (.cells (List.toArray (v0 :: v1 :: v2 :: v3 :: v4 :: v5 :: v6 :: v7 :: v8 :: v9 :: v10 :: v11 :: v12 :: l)) t (0, 0))) : w.cell? ⟨g, 12, none⟩ = some v12 := (blk_cell h 12).trans (by simp)
theorem pkh {w W V : World} [n : Nonempty (Below W.heap.size W V)] (h : Below w.heap.size w W) : Below w.heap.size w V := n.elim fun b => h.trans (b.mono h.size)
theorem pkr {α : Type} {d : Kd α} {e base : Nat} {ok : Nat → Prop} {w W : World} {v : Value} {xs : List α} [n : Nonempty (Below w.heap.size w W)] (h : d.R e w base ok v xs) : d.R e W base ok v xs := n.elim fun b => Kd.R_below h b
end
section
variable {P : Program} {ops : Array Oper} {rest : List Oper} {Q : Exit → Act → World → Prop}
theorem gate_calleeT {o : Oper} {a : Act} {W : World} {t : Tmp} {xs : Array Operand} {ts : Array TypeId} (_ho : o.op = .call { callee := .value (.tmp t), args := xs, argTypes := ts }) (h : wpList P ops Q (o :: rest) a W) : wpList P ops Q (o :: rest) a W := h
theorem goesT_ {oi : Oper} {a : Act} {w : World} (N : Option Tmp) (hd : oi.dst = N) (hg : oi.guard = none) {f : FuncId} {fn : Func} {t : Tmp} {xs : Array Operand} {ts : Array TypeId} (hv : a.eval (.tmp t) = .func (.func f) #[] #[]) (hf : P.funcs[f]? = some fn) (hname : (fn.name == "runtime.NumGoroutine") = false) (hb : fn.body.isSome = true) (args : Array Value)
  (hop : oi.op = .call { callee := .value (.tmp t), args := xs, argTypes := ts }) (hargs : xs.map a.eval = args)
  (h : Calls P f args w fun e w' => ∃ v, e = .returned v ∧ wpList P ops Q rest (a.put N v) w') : wpList P ops Q (oi :: rest) a w := by
 refine wpList_plain hg fun K hK => ?_
 have he := enters_ hf hname hb args w
 have hrun : (execOp a.eval oi).run P w = .ok (.enter f args) w := by
  unfold execOp
  simp [hop, resolve, hv, Deferred.ofValue, invoke, hargs, he]
 unfold Oper.wp
 rw [hrun, Oper.upon_enter]
 refine h.mono fun e w'' hh => ?_
 obtain ⟨v, rfl, hk⟩ := hh
 subst hd
 exact hK _ _ hk
end

theorem info3 : (Try.prog.info? 3).map (fun i => (i.zero, i.size, i.bytes)) = some (some (.int .i64 0), 1, 8) := by kernel_rfl
theorem info58 : (Try.prog.info? 58).map (fun i => (i.zero, i.size, i.bytes)) = some (some (.agg #[(.int .i64 0), (.int .i64 0), (.int .i64 0)]), 3, 24) := by kernel_rfl
-- the values' own types
/-! #### struct type 58 -/
structure S58 where
 f0 : Int
 f1 : Int
 f2 : Int
def z58 : S58 := ⟨(0 : Int), (0 : Int), (0 : Int)⟩
def k58 : Kd S58 := Kd.iso (Kd.pair (Kd.int .i64) (Kd.pair (Kd.int .i64) (Kd.int .i64))) (fun x : S58 => (x.f0, x.f1, x.f2))
theorem k58_open {w : World} {x : S58} {cs : List Value} (h : k58.K w x cs) : cs = [.int .i64 x.f0, .int .i64 x.f1, .int .i64 x.f2] := by
 obtain ⟨_, _, rfl, rfl, ⟨_, _, rfl, rfl, rfl⟩⟩ := h
 exact rfl
theorem k58_openM {w : World} {base : Nat} {ok : Nat → Prop} {x : S58} {cs : List Value} (h : k58.M w base ok x cs) : cs = [.int .i64 x.f0, .int .i64 x.f1, .int .i64 x.f2] := by
 obtain ⟨_, _, rfl, rfl, ⟨_, _, rfl, rfl, rfl⟩⟩ := h
 exact rfl
theorem k58_mk (w : World) (x : S58)  : k58.K w x [.int .i64 x.f0, .int .i64 x.f1, .int .i64 x.f2] := ⟨[.int .i64 x.f0], [.int .i64 x.f1, .int .i64 x.f2], rfl, rfl, ⟨[.int .i64 x.f1], [.int .i64 x.f2], rfl, rfl, rfl⟩⟩
theorem k58_mkM (w : World) (base : Nat) (ok : Nat → Prop) (x : S58)  : k58.M w base ok x [.int .i64 x.f0, .int .i64 x.f1, .int .i64 x.f2] := ⟨[.int .i64 x.f0], [.int .i64 x.f1, .int .i64 x.f2], rfl, rfl, ⟨[.int .i64 x.f1], [.int .i64 x.f2], rfl, rfl, rfl⟩⟩
def rd_T58 (xs : List S58) (i : Int) : S58 := xs.getD i.toNat z58
theorem at_T58 {w : World} {A : Option Addr} {n : Nat} {xs : List S58} (h : Kd.C k58 w A n xs) (i : Int) (h0 : 0 ≤ i) (h1 : i < n) : ∃ ad , A = some ad ∧ w.cell? (ad.add (i.toNat * 3)) = some (.int .i64 (rd_T58 xs i).f0) ∧ w.cell? ⟨(ad.add (i.toNat * 3)).block, (ad.add (i.toNat * 3)).off + 1, none⟩ = some (.int .i64 (rd_T58 xs i).f1) ∧ w.cell? ⟨(ad.add (i.toNat * 3)).block, (ad.add (i.toNat * 3)).off + 2, none⟩ = some (.int .i64 (rd_T58 xs i).f2) := by
 obtain ⟨ad, c, e, _, hK, hc0⟩ := Kd.C_get h z58 i h0 h1
 have hc : ∀ j u, c[j]? = some u → w.cell? (ad.add (i.toNat * 3 + j)) = some u := hc0
 obtain rfl := k58_open hK
 exact ⟨ad, e, hc 0 _ rfl, by rw [← add_field _ _ 1 (by omega)]; exact hc 1 _ rfl, by rw [← add_field _ _ 2 (by omega)]; exact hc 2 _ rfl⟩

def rd_L3 (xs : List (List Int)) (i : Int) : (List Int) := xs.getD i.toNat ([] : List Int)
theorem at_L3 {w : World} {A : Option Addr} {n : Nat} {xs : List (List Int)} (h : Kd.C (Kd.slice 5 (Kd.int .u8)) w A n xs) (i : Int) (h0 : 0 ≤ i) (h1 : i < n) : ∃ ad A0 c0, A = some ad ∧ w.cell? (ad.add i.toNat) = some (.slice A0 (rd_L3 xs i).length c0) ∧ (rd_L3 xs i).length ≤ c0 ∧ (Kd.int .u8).C w A0 (rd_L3 xs i).length (rd_L3 xs i) := by
 obtain ⟨ad, c, e, _, hK, hc0⟩ := Kd.C_get h ([] : List Int) i h0 h1
 have hc : ∀ j u, c[j]? = some u → w.cell? (ad.add (i.toNat * 1 + j)) = some u := hc0
 obtain ⟨A0, c0, rfl, l0, g0⟩ := hK
 exact ⟨ad, A0, c0, e, by have hq := hc 0 _ rfl; rwa [Nat.mul_one, Nat.add_zero] at hq, l0, g0⟩

end Go.Proofs.Ytkjlpledjnidfaa.PFnMigrates
