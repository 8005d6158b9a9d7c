/- Words for walks: functions with a loop over an iterator's function: where they begin and end. -/
import Derived.Test.YtndajeiecdmhnaaGl
namespace Go.Proofs.Ytndajeiecdmhnaa
open Go.RowKit (Below)

section
variable {P : Program} {w0 : World} {L : List Res} {m : Nat} {tm : Nat → Value}
theorem calls_enterM {f : FuncId} {fn : Func} {c : Code} {vs : List Value} {W : World} {R : Ending → World → Prop} (hf : P.funcs[f]? = some fn) (hb : fn.body = some c) (hn : fn.ntmps = m) (hl : vs.length ≤ m)
    (h : CX none 8 P c (bodyPostM (Fw none) 8 P fn R) W [] m (fun i => (vs[i]?).getD undef) []) : Calls P f vs.toArray W R := by
  refine callsW' (r := none) (n := 8) (callsIn_of_wp_marks hf hb trivial ?_ rfl)
  rw [act_enter _ _ (by rw [hn]; simpa using hl), hn]
  have := h W (Ext.nil W)
  simpa using this
theorem ex_M1 {fn : Func} {R : Ending → World → Prop} {e : Exit} {D : Nat} (i : Nat) (hL : L[i]? = some (dfR D)) (he : e = .ret ∨ e = .normal) (h : EX (bodyPost P fn R) e w0 (L.set i (blk D (.deferred none))) m tm []) :
    EX (bodyPostM (Fw none) 8 P fn R) e w0 L m tm [⟨.collected D, #[]⟩] := fun W hW => by
  have hd : W.heap[D]? = some (.deferred (some [])) := hW.mem hL
  have h2 : Ext w0 (W.putObj D (.deferred none)) (L.set i (blk D (.deferred none))) :=
    hW.set hL (blk D (.deferred none)) (World.putObj_heap_same (lt_of_block hd)) rfl rfl rfl (by simp [World.putObj]) (fun b hb hn => World.putObj_heap_other (fun e => hn e)) (fun b hb => .inl hb)
  have h1 := h _ h2
  have key : LeavesInM (Fw none) 8 P fn (act m tm [⟨.collected D, #[]⟩]).tmps R [⟨.collected D, #[]⟩] .returning W :=
    ⟨(by intro h; cases h), .inl ⟨D, _, rfl, run_takeDeferred hd, by
      rcases he with rfl | rfl <;> exact h1.2⟩⟩
  rcases he with rfl | rfl <;> exact key
end

end Go.Proofs.Ytndajeiecdmhnaa
