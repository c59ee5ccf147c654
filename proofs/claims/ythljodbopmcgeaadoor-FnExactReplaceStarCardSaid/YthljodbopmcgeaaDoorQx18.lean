-- By wip/hyb/hyb.py of this session, over the kit's print.py
import Derived.Test.YthljodbopmcgeaaDoorQx0
namespace Go.Proofs.YthljodbopmcgeaaDoor.Q
open Go.Proofs.YthljodbopmcgeaaDoorW.Ext
open Go.RowKit Go.Proofs.YthljodbopmcgeaaDoorW.PrintWords Go.Proofs.YthljodbopmcgeaaDoorW.PrintLast Go.Proofs.YthljodbopmcgeaaDoorW.PrintMore
attribute [local go_sem] max2_int min2_int max_two min_two max_three min_three max_four min_four   -- for this text's walks alone
set_option linter.unusedVariables false
set_option linter.unusedSimpArgs false

/-! ### impl_areGiven: function 23 -/
def impl_areGiven.f (a0 : ByteArray) (a1 : ByteArray) : Option (Bool) := if a1.toList = ([] : List UInt8) then (some false) else (some (decide ((wrap64 ((a0.size : Int) + (a1.size : Int))) ≤ 64)))
set_option maxHeartbeats 8000000 in
set_option maxRecDepth 100000 in
theorem impl_areGiven.calls (a0 : ByteArray) (a1 : ByteArray) (r : Bool) (w : World) (h : impl_areGiven.f a0 a1 = some r) :
    Calls Tryd.prog 23 #[.string a0, .string a1] w fun e w' => e = .returned (.bool r) ∧ Drawn0 w w' := by
  have H : (if a1.toList = ([] : List UInt8) then (some false) else (some (decide ((wrap64 ((a0.size : Int) + (a1.size : Int))) ≤ 64)))) = some r := h
  clear h
  by_cases c3 : a1.toList = ([] : List UInt8)
  · rw [if_pos c3] at H
    have c3b0 : (a1.toList == ([] : List UInt8)) = true := beq_iff_eq.mpr c3
    have c3b1 : (a1.toList != ([] : List UInt8)) = false := bne_eq_false_iff_eq.mpr c3
    clear c3
    obtain rfl := Option.some.inj H
    go_enter Tryd.func23, Tryd.ntmps23
    go_wp2
    go_ret
    exact ⟨by first | rfl | (simp; done) | (simp [*]; done), by repeat (first | exact Drawn0.refl _ | apply Drawn0.step)⟩
  · rw [if_neg c3] at H
    have c3b0 : (a1.toList == ([] : List UInt8)) = false := beq_eq_false_iff_ne.mpr c3
    have c3b1 : (a1.toList != ([] : List UInt8)) = true := bne_iff_ne.mpr c3
    obtain rfl := Option.some.inj H
    go_enter Tryd.func23, Tryd.ntmps23
    go_wp2
    go_ret
    exact ⟨by first | rfl | (simp; done) | (simp [*]; done), by repeat (first | exact Drawn0.refl _ | apply Drawn0.step)⟩

end Go.Proofs.YthljodbopmcgeaaDoor.Q
