import Derived.Test.YtcleeakjghgbdaaP
import Derived.KernelRfl
set_option linter.unusedSimpArgs false
set_option linter.unusedVariables false
namespace Go.Proofs.Ytcleeakjghgbdaa
theorem k4:dD=some true := by kernel_rfl
theorem lh {k:TKinds} (a0 : -1000000≤k.x0) (b0 : -1000000≤k.x1) (c0 : -1000000≤k.x2):bc k=some (min k.x0 51+min k.x1 51+min k.x2 51) := by
  have e1:aT [k.x0, k.x1, k.x2] (fun x=>bQ x) (0, 0)=some (.inl (min k.x0 51, 1)) := by
    unfold aT;dsimp only
    rw[if_pos (by simp), ah (by simp)]
    show some (Sum.inl (w64 (0+min k.x0 51), w64 (0+1)))=_
    rw[Int.zero_add, bJ (by omega) (by omega)]
    rfl
  have e2:aT [k.x0, k.x1, k.x2] (fun x=>bQ x) (min k.x0 51, 1)=some (.inl (min k.x0 51+min k.x1 51, 2)) := by
    unfold aT;dsimp only
    rw[if_pos (by simp), ah (by simp)]
    show some (Sum.inl (w64 (min k.x0 51+min k.x1 51), w64 (1+1)))=_
    rw[bJ (by omega) (by omega)]
    rfl
  have e3:aT [k.x0, k.x1, k.x2] (fun x=>bQ x) (min k.x0 51+min k.x1 51, 2)=some (.inl (min k.x0 51+min k.x1 51+min k.x2 51, 3)) := by
    unfold aT;dsimp only
    rw[if_pos (by simp), ah (by simp)]
    show some (Sum.inl (w64 (min k.x0 51+min k.x1 51+min k.x2 51), w64 (2+1)))=_
    rw[bJ (by omega) (by omega)]
    rfl
  have e4:aT [k.x0, k.x1, k.x2] (fun x=>bQ x) (min k.x0 51+min k.x1 51+min k.x2 51, 3)=some (.inr (min k.x0 51+min k.x1 51+min k.x2 51, 3)) := by
    unfold aT;dsimp only
    rw[if_neg (by simp)]
  unfold bc bD
  rw[aC e1, aC e2, aC e3, bk e4]
  rfl
theorem jv (k:TKinds):bd k=some (decide (0≤k.x0∧0≤k.x1∧0≤k.x2)) := by
  unfold bd
  congr 1
  apply decide_eq_decide.2
  omega
end Go.Proofs.Ytcleeakjghgbdaa
