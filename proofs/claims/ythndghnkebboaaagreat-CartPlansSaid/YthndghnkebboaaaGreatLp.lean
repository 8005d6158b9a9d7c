import Derived.Test.YthndghnkebboaaaGreatYh
set_option linter.unusedSimpArgs false
set_option linter.unusedVariables false
namespace Go.Proofs.YthndghnkebboaaaGreat
def suitsV (y : TY) (o b : Int) : Bool × Int:=if yardV y ≠ 0 then (false,yardV y) else if orderI y o < 0 ∨ bayI y b < 0 then (false,5) else (suitB (rdL y.fR (orderI y o)) (rdL y.fB (bayI y b)),0)
theorem Suits_eq (y : TY) (o b : Int) : cart_Suits y o b = some (suitsV y o b):=by
 unfold cart_Suits suitsV
 rw [CheckYard_eq,oB]
 by_cases h0 : yardV y = 0
 ·have hG:=yardV_zero.1 h0
  have hB:=hG.bays
  have hO:=hG.ords
  rw [if_neg (by simp [h0]),if_neg (by simp [h0]),order_eq (by omega),bay_eq (by omega),oB,oB]
  have h1:=idxI_lt_len y.fR (fun n => n.fID == o)
  have h2:=bay_lt y b
  by_cases c : orderI y o < 0 ∨ bayI y b < 0
  ·rw [if_pos (by simpa using c),if_pos c]
  ·rw [if_neg (by simpa using c),if_neg c]
   have h1' : orderI y o < (y.fR.length : Int):=h1
   rw [gPo (by omega),gPo (by omega)]
   simp only [TSpan_eta,TOrder_eta,TBay_eta,suits_eq,oB]
 ·rw [if_pos (by simpa using h0),if_pos h0]
theorem rSuits_eq (y : TY) (o b : Int) : ref05_Suits y o b = some (suitsV y o b):=by
 unfold ref05_Suits suitsV
 rw [rCheckYard_eq,oB]
 by_cases h0 : yardV y = 0
 ·have hG:=yardV_zero.1 h0
  have hB:=hG.bays
  have hO:=hG.ords
  rw [if_neg (by simp [h0]),if_neg (by simp [h0]),rorder_eq (by omega),rbay_eq (by omega),oB,oB]
  have h1 : orderI y o < (y.fR.length : Int):=idxI_lt_len y.fR (fun n => n.fID == o)
  have h2:=bay_lt y b
  by_cases c : orderI y o < 0 ∨ bayI y b < 0
  ·rw [if_pos (by simpa using c),if_pos c]
  ·rw [if_neg (by simpa using c),if_neg c]
   obtain ⟨i,hi⟩ : ∃ i : Nat,orderI y o = (i : Int):=⟨(orderI y o).toNat,by omega⟩
   obtain ⟨k,hk⟩ : ∃ k : Nat,bayI y b = (k : Int):=⟨(bayI y b).toNat,by omega⟩
   rw [hi,hk,rsuits_eq (by omega) (by omega),rdL_oat,rdL_bat]
   rfl
 ·rw [if_pos (by simpa using h0),if_pos h0]
theorem S1_none {y : TY} (o k : Nat) : S1 y (-1) o k ↔ Su y o k:=⟨fun h => h.1,fun h => ⟨h,by omega⟩⟩
theorem rWorth_ok {y : TY} (hG : Good y) (h9 : y.fR.length < 20) {V : Int} (hV : Opt (Su y) (wo y) y.fB.length V) : ref05_Worth y = some (V,0):=by
 obtain ⟨l,V',h1,h2,h3⟩:=rbest_ok hG h9 (wi:=-1) (by omega)
 have:=(h3.congr S1_none (fun _ _ _ => rfl)).unique hV
 unfold ref05_Worth
 rw [rCheckYard_eq,yardV_zero.2 hG,oB,if_neg (by simp),h1,oB,h2,this]
 rfl
theorem yard_eq (y : TY) : calxlaw05_yard y = some (decide ((y.fB.length ≤ 9 ∨ 24 < y.fB.length ∧ y.fB.length ≤ 40) ∧ (y.fR.length ≤ 9 ∨ 24 < y.fR.length ∧ y.fR.length ≤ 40))):=by
 unfold calxlaw05_yard
 refine congrArg some ?_
 rw [Bool.eq_iff_iff]
 simp only [Bool.and_eq_true,Bool.or_eq_true,decide_eq_true_eq]
 omega
theorem CartPlans_true (y : TY) (order bay : Int) (p : TPlan) (hy : TYard_rg y) (h1 : Rg_i64 order) (h2 : Rg_i64 bay) (hp : TPlan_rg p) : calxlaw05_CartPlans y order bay p = some true:=by
 unfold calxlaw05_CartPlans
 rw [yard_eq,oB]
 by_cases hg : (((!decide ((y.fB.length ≤ 9 ∨ 24 < y.fB.length ∧ y.fB.length ≤ 40) ∧ (y.fR.length ≤ 9 ∨ 24 < y.fR.length ∧ y.fR.length ≤ 40))) || decide (60 < ((p.fG.length : Nat) : Int))) || decide (60 < ((p.fPrices.length : Nat) : Int))) = true
 ·rw [if_pos hg,sanity_true]; rfl
 ·rw [if_neg hg]
  have hg2:=Bool.eq_false_iff.2 hg
  rw [Bool.or_eq_false_iff,Bool.or_eq_false_iff,Bool.not_eq_false',decide_eq_true_eq] at hg2
  obtain ⟨⟨hyd,_⟩,_⟩:=hg2
  rw [Suits_eq,oB,rSuits_eq,oB]
  by_cases h0 : yardV y = 0
  ·have hG:=yardV_zero.1 h0
   have h9 : y.fR.length < 20:=by have:=hG.ords; omega
   obtain ⟨V,hW,hV⟩:=Worth_ok hG h9
   obtain ⟨pl,m,q,u,hS,hM,hpr,hpo⟩:=Serve_ok hG h9
   have hVe : pl.fW = V:=by rw [hpo.worth]; exact (hpr.opt (Su.fit y) hM).unique hV
   have hpv:=hpo.proved hG hM hpr
   rw [hW,oB,rWorth_ok hG h9 hV,oB,hS,oB]
   dsimp only
   rw [if_neg (by simp),if_pos (by rfl),rCheckPlan_eq hG,if_pos hpv,sanity_true,CheckYard_eq,rCheckYard_eq,CheckPlan_eq hG hp.1.2,rCheckPlan_eq hG]
   simp [hVe]
  ·have e1 : cart_Worth y = some (0,yardV y):=by
    unfold cart_Worth
    rw [CheckYard_eq,oB,if_pos (by simpa using h0)]
   have e2 : ref05_Worth y = some (0,yardV y):=by
    unfold ref05_Worth
    rw [rCheckYard_eq,oB,if_pos (by simpa using h0)]
   have e3 : cart_Serve y = some (TPlan.mk [] 0 [],yardV y):=by
    unfold cart_Serve
    rw [CheckYard_eq,oB,if_pos (by simpa using h0)]
   have e4 : cart_CheckPlan y p = some (yardV y):=by
    unfold cart_CheckPlan
    rw [CheckYard_eq,oB,if_pos (by simpa using h0)]
   have e5 : ref05_CheckPlan y p = some (yardV y):=by
    unfold ref05_CheckPlan
    rw [rCheckYard_eq,oB,if_pos (by simpa using h0)]
   rw [e1,e2,e3,e4,e5,sanity_true,CheckYard_eq,rCheckYard_eq]
   simp [h0]
end Go.Proofs.YthndghnkebboaaaGreat
