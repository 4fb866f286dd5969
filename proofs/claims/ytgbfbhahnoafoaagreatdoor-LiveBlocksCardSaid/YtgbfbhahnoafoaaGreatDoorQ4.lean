/- A part of the proof: lemmas, no statement of the seat is proved in this file. -/
import Derived.Test.YtgbfbhahnoafoaaGreatDoorQ3
set_option autoImplicit false
set_option maxRecDepth 100000

/- The functions that LiveBlocks comes to, as the program has them, the types resolved. -/
namespace Go.Proofs.YtgbfbhahnoafoaaGreatDoor
open Go Go.Abs

@[simp] theorem EL_keep {g : Nat} : EL.keep g = kept g := rfl
@[simp] theorem EL_noisy {g : Nat} : EL.noisy g = false := rfl
@[simp] theorem EL_glob {g : Nat} : EL.glob g = if g = 0 then some tableA else none := rfl
attribute [simp] kept

/-- hearth/hearthlaw12.LiveBlocks -/
def F7 : IFun := ⟨73, [.tmp 2], (.seq (.ops [⟨(some 1), none, .box (.reg 0)⟩, ⟨(some 2), none, .mov (.const (.bool false))⟩])
  (.seq (.seq (.ops [⟨(some 9), none, .load true 5 (.reg 1)⟩, ⟨(some 10), none, .call (.const (.func (.func 11) [] [])) [(.reg 9)]⟩])
  (.cond (.reg 10)
  (.seq (.ops [⟨(some 11), none, .call (.const (.func (.func 12) [] [])) []⟩, ⟨(some 2), none, .mov (.reg 11)⟩])
  .ret)
  .skip))
  (.seq (.ops [⟨(some 13), none, .load true 5 (.reg 1)⟩, ⟨(some 14), none, .call (.const (.func (.func 37) [] [])) [(.reg 13)]⟩, ⟨(some 12), none, .mov (.reg 14)⟩, ⟨(some 15), none, .extract (.reg 12) 0⟩, ⟨(some 16), none, .extract (.reg 12) 1⟩, ⟨(some 3), none, .mov (.reg 15)⟩, ⟨(some 4), none, .mov (.reg 16)⟩])
  (.seq (.ops [⟨(some 18), none, .load true 5 (.reg 1)⟩, ⟨(some 19), none, .call (.const (.func (.func 38) [] [])) [(.reg 18)]⟩, ⟨(some 17), none, .mov (.reg 19)⟩, ⟨(some 20), none, .extract (.reg 17) 0⟩, ⟨(some 21), none, .extract (.reg 17) 1⟩, ⟨(some 5), none, .mov (.reg 20)⟩, ⟨(some 6), none, .mov (.reg 21)⟩])
  (.seq (.ops [⟨(some 23), none, .load true 5 (.reg 1)⟩, ⟨(some 24), none, .call (.const (.func (.func 15) [] [])) [(.reg 23)]⟩, ⟨(some 22), none, .mov (.reg 24)⟩, ⟨(some 25), none, .extract (.reg 22) 0⟩, ⟨(some 26), none, .extract (.reg 22) 1⟩, ⟨(some 7), none, .mov (.reg 25)⟩, ⟨(some 8), none, .mov (.reg 26)⟩])
  (.seq (.seq (.ops [⟨(some 27), none, .mov (.reg 8)⟩, ⟨(some 28), none, .eqv true (.one .int) (.reg 27) (.const (.int .i64 0))⟩])
  (.cond (.reg 28)
  (.seq (.ops [⟨(some 29), none, .mov (.reg 4)⟩, ⟨(some 30), none, .mov (.reg 8)⟩, ⟨(some 31), none, .eqv false (.one .int) (.reg 29) (.reg 30)⟩, ⟨(some 32), none, .mov (.reg 31)⟩, ⟨(some 33), (some ((some 32), true)), .mov (.reg 3)⟩, ⟨(some 34), (some ((some 32), true)), .len .slice (.reg 33)⟩, ⟨(some 35), (some ((some 32), true)), .eqv false (.one .int) (.reg 34) (.const (.int .i64 0))⟩, ⟨(some 36), none, .pick (.reg 32) (.reg 35) (.const (.bool false))⟩, ⟨(some 37), none, .mov (.reg 36)⟩, ⟨(some 38), (some ((some 37), true)), .mov (.reg 6)⟩, ⟨(some 39), (some ((some 37), true)), .mov (.reg 8)⟩, ⟨(some 40), (some ((some 37), true)), .eqv false (.one .int) (.reg 38) (.reg 39)⟩, ⟨(some 41), none, .pick (.reg 37) (.reg 40) (.const (.bool false))⟩, ⟨(some 42), none, .mov (.reg 41)⟩, ⟨(some 43), (some ((some 42), true)), .mov (.reg 5)⟩, ⟨(some 44), (some ((some 42), true)), .len .slice (.reg 43)⟩, ⟨(some 45), (some ((some 42), true)), .eqv false (.one .int) (.reg 44) (.const (.int .i64 0))⟩, ⟨(some 46), none, .pick (.reg 42) (.reg 45) (.const (.bool false))⟩, ⟨(some 47), none, .mov (.reg 46)⟩, ⟨(some 48), (some ((some 47), true)), .call (.const (.func (.func 12) [] [])) []⟩, ⟨(some 49), none, .pick (.reg 47) (.reg 48) (.const (.bool false))⟩, ⟨(some 2), none, .mov (.reg 49)⟩])
  .ret)
  .skip))
  (.seq (.ops [⟨(some 50), none, .mov (.reg 4)⟩, ⟨(some 51), none, .eqv false (.one .int) (.reg 50) (.const (.int .i64 0))⟩, ⟨(some 52), none, .mov (.reg 51)⟩, ⟨(some 53), (some ((some 52), true)), .mov (.reg 3)⟩, ⟨(some 54), (some ((some 52), true)), .load true 5 (.reg 1)⟩, ⟨(some 55), (some ((some 52), true)), .mov (.reg 7)⟩, ⟨(some 56), (some ((some 52), true)), .call (.const (.func (.func 40) [] [])) [(.reg 54), (.reg 55)]⟩, ⟨(some 57), (some ((some 52), true)), .call (.const (.func (.func 39) [] [])) [(.reg 53), (.reg 56)]⟩, ⟨(some 58), none, .pick (.reg 52) (.reg 57) (.const (.bool false))⟩, ⟨(some 59), none, .mov (.reg 58)⟩, ⟨(some 60), (some ((some 59), true)), .mov (.reg 6)⟩, ⟨(some 61), (some ((some 59), true)), .eqv false (.one .int) (.reg 60) (.const (.int .i64 0))⟩, ⟨(some 62), none, .pick (.reg 59) (.reg 61) (.const (.bool false))⟩, ⟨(some 63), none, .mov (.reg 62)⟩, ⟨(some 64), (some ((some 63), true)), .mov (.reg 5)⟩, ⟨(some 65), (some ((some 63), true)), .load true 5 (.reg 1)⟩, ⟨(some 66), (some ((some 63), true)), .mov (.reg 7)⟩, ⟨(some 67), (some ((some 63), true)), .call (.const (.func (.func 42) [] [])) [(.reg 65), (.reg 66)]⟩, ⟨(some 68), (some ((some 63), true)), .call (.const (.func (.func 41) [] [])) [(.reg 64), (.reg 67)]⟩, ⟨(some 69), none, .pick (.reg 63) (.reg 68) (.const (.bool false))⟩, ⟨(some 70), none, .mov (.reg 69)⟩, ⟨(some 71), (some ((some 70), true)), .call (.const (.func (.func 12) [] [])) []⟩, ⟨(some 72), none, .pick (.reg 70) (.reg 71) (.const (.bool false))⟩, ⟨(some 2), none, .mov (.reg 72)⟩])
  .ret)))))))⟩
theorem c7 : EL.fns 7 = some F7 := fns_of Tryz.func7 (by kernel_rfl) (by kernel_rfl)

/-- hearth/hearthlaw12.large -/
def F11 : IFun := ⟨12, [.tmp 2], (.seq (.ops [⟨(some 1), none, .box (.reg 0)⟩, ⟨(some 2), none, .mov (.const (.bool false))⟩])
  (.seq (.ops [⟨(some 3), none, .load true 5 (.reg 1)⟩, ⟨(some 4), none, .call (.const (.func (.func 61) [] [])) [(.reg 3)]⟩, ⟨(some 5), none, .un .not (.reg 4)⟩, ⟨(some 6), none, .mov (.reg 5)⟩, ⟨(some 7), (some ((some 6), false)), .addOff (.reg 1) 0⟩, ⟨(some 8), (some ((some 6), false)), .load false 1 (.reg 7)⟩, ⟨(some 9), (some ((some 6), false)), .len .slice (.reg 8)⟩, ⟨(some 10), (some ((some 6), false)), .bin .gtr (.reg 9) (.const (.int .i64 700))⟩, ⟨(some 11), none, .pick (.reg 6) (.const (.bool true)) (.reg 10)⟩, ⟨(some 2), none, .mov (.reg 11)⟩])
  .ret))⟩
theorem c11 : EL.fns 11 = some F11 := fns_of Tryz.func11 (by kernel_rfl) (by kernel_rfl)

/-- hearth/hearthref12.Fine -/
def F15 : IFun := ⟨17, [.tmp 2, .tmp 3], (.seq (.ops [⟨(some 1), none, .box (.reg 0)⟩, ⟨(some 2), none, .mov (.const (.frz [] true))⟩, ⟨(some 3), none, .mov (.const (.int .i64 0))⟩])
  (.seq (.seq (.ops [⟨(some 6), none, .load true 5 (.reg 1)⟩, ⟨(some 7), none, .call (.const (.func (.func 79) [] [])) [(.reg 6)]⟩, ⟨(some 8), none, .un .not (.reg 7)⟩])
  (.cond (.reg 8)
  (.seq (.ops [⟨(some 2), none, .mov (.const (.frz [] true))⟩, ⟨(some 3), none, .mov (.const (.int .i64 2))⟩])
  .ret)
  .skip))
  (.seq (.ops [⟨(some 10), none, .load true 5 (.reg 1)⟩, ⟨(some 11), none, .call (.const (.func (.func 80) [] [])) [(.reg 10)]⟩, ⟨(some 9), none, .mov (.reg 11)⟩, ⟨(some 12), none, .extract (.reg 9) 0⟩, ⟨(some 13), none, .extract (.reg 9) 1⟩, ⟨(some 4), none, .mov (.reg 12)⟩, ⟨(some 5), none, .mov (.reg 13)⟩])
  (.seq (.seq (.ops [⟨(some 14), none, .mov (.reg 5)⟩, ⟨(some 15), none, .un .not (.reg 14)⟩])
  (.cond (.reg 15)
  (.seq (.ops [⟨(some 2), none, .mov (.const (.frz [] true))⟩, ⟨(some 3), none, .mov (.const (.int .i64 7))⟩])
  .ret)
  .skip))
  (.seq (.ops [⟨(some 16), none, .mov (.reg 4)⟩, ⟨(some 2), none, .mov (.reg 16)⟩, ⟨(some 3), none, .mov (.const (.int .i64 0))⟩])
  .ret)))))⟩
theorem c15 : EL.fns 15 = some F15 := fns_of Tryz.func15 (by kernel_rfl) (by kernel_rfl)

/-- hearth/live.Starts -/
def F37 : IFun := ⟨41, [.tmp 2, .tmp 3], (.seq (.ops [⟨(some 1), none, .box (.reg 0)⟩, ⟨(some 2), none, .mov (.const (.frz [] true))⟩, ⟨(some 3), none, .mov (.const (.int .i64 0))⟩])
  (.seq (.ops [⟨(some 10), none, .load true 5 (.reg 1)⟩, ⟨(some 11), none, .call (.const (.func (.func 97) [] [])) [(.reg 10)]⟩, ⟨(some 9), none, .mov (.reg 11)⟩, ⟨(some 12), none, .extract (.reg 9) 0⟩, ⟨(some 13), none, .extract (.reg 9) 1⟩, ⟨(some 4), none, .mov (.reg 12)⟩, ⟨(some 5), none, .mov (.reg 13)⟩])
  (.seq (.seq (.ops [⟨(some 14), none, .mov (.reg 5)⟩, ⟨(some 15), none, .eqv true (.one .int) (.reg 14) (.const (.int .i64 0))⟩])
  (.cond (.reg 15)
  (.seq (.ops [⟨(some 16), none, .mov (.reg 5)⟩, ⟨(some 2), none, .mov (.const (.frz [] true))⟩, ⟨(some 3), none, .mov (.reg 16)⟩])
  .ret)
  .skip))
  (.seq (.ops [⟨(some 6), none, .mov (.const (.frz [] true))⟩])
  (.seq (.seq (.ops [⟨(some 17), none, .mov (.reg 4)⟩, ⟨(some 18), none, .call (.const (.func (.func 101) [] [])) [(.reg 17)]⟩, ⟨(some 19), none, .len .slice (.reg 18)⟩, ⟨(some 20), none, .mov (.const (.int .i64 0))⟩])
  (.block 0 (.loop
  (.seq (.ops [⟨(some 21), none, .bin .lss (.reg 20) (.reg 19)⟩])
  (.seq (.cond (.reg 21)
  .skip
  (.exit 0))
  (.seq (.block 1 (.seq (.ops [⟨(some 22), none, .mov (.reg 20)⟩, ⟨(some 23), none, .idxS 1 (.reg 18) (.reg 20)⟩, ⟨(some 24), none, .load false 1 (.reg 23)⟩, ⟨(some 7), none, .mov (.reg 22)⟩, ⟨(some 8), none, .mov (.reg 24)⟩])
  (.seq (.ops [⟨(some 25), none, .mov (.reg 8)⟩])
  (.cond (.reg 25)
  (.ops [⟨(some 26), none, .mov (.reg 6)⟩, ⟨(some 27), none, .mov (.reg 7)⟩, ⟨(some 28), none, .mov (.reg 4)⟩, ⟨(some 29), none, .nilCheck (.reg 28)⟩, ⟨(some 30), none, .addOff (.reg 29) 5⟩, ⟨(some 31), none, .load false 1 (.reg 30)⟩, ⟨(some 32), none, .mov (.reg 7)⟩, ⟨(some 33), none, .idxS 3 (.reg 31) (.reg 32)⟩, ⟨(some 34), none, .addOff (.reg 33) 2⟩, ⟨(some 35), none, .load false 1 (.reg 34)⟩, ⟨(some 36), none, .build [(.int .i64 0), (.int .i64 0)] [(0, 1, (.reg 27)), (1, 1, (.reg 35))]⟩, ⟨(some 37), none, .buildSlice 2 (.agg [(.int .i64 0), (.int .i64 0)]) 1 [(0, (.reg 36))]⟩, ⟨(some 38), none, .append 2 16 (.reg 26) (.reg 37)⟩, ⟨(some 6), none, .mov (.reg 38)⟩])
  .skip))))
  (.ops [⟨(some 39), none, .bin .add (.reg 20) (.const (.int .i64 1))⟩, ⟨(some 20), none, .mov (.reg 39)⟩])))))))
  (.seq (.ops [⟨(some 40), none, .mov (.reg 6)⟩, ⟨(some 2), none, .mov (.reg 40)⟩, ⟨(some 3), none, .mov (.const (.int .i64 0))⟩])
  .ret))))))⟩
theorem c37 : EL.fns 37 = some F37 := fns_of Tryz.func37 (by kernel_rfl) (by kernel_rfl)

/-- hearth/live.Blocks -/
def F38 : IFun := ⟨69, [.tmp 2, .tmp 3], (.seq (.ops [⟨(some 1), none, .box (.reg 0)⟩, ⟨(some 2), none, .mov (.const (.frz [] true))⟩, ⟨(some 3), none, .mov (.const (.int .i64 0))⟩])
  (.seq (.ops [⟨(some 15), none, .load true 5 (.reg 1)⟩, ⟨(some 16), none, .call (.const (.func (.func 97) [] [])) [(.reg 15)]⟩, ⟨(some 14), none, .mov (.reg 16)⟩, ⟨(some 17), none, .extract (.reg 14) 0⟩, ⟨(some 18), none, .extract (.reg 14) 1⟩, ⟨(some 4), none, .alloc .nilp⟩, ⟨none, none, .store 1 (.reg 4) (.reg 17)⟩, ⟨(some 5), none, .mov (.reg 18)⟩])
  (.seq (.seq (.ops [⟨(some 19), none, .mov (.reg 5)⟩, ⟨(some 20), none, .eqv true (.one .int) (.reg 19) (.const (.int .i64 0))⟩])
  (.cond (.reg 20)
  (.seq (.ops [⟨(some 21), none, .mov (.reg 5)⟩, ⟨(some 2), none, .mov (.const (.frz [] true))⟩, ⟨(some 3), none, .mov (.reg 21)⟩])
  .ret)
  .skip))
  (.seq (.ops [⟨(some 22), none, .load false 1 (.reg 4)⟩, ⟨(some 23), none, .call (.const (.func (.func 101) [] [])) [(.reg 22)]⟩, ⟨(some 6), none, .alloc (.frz [] true)⟩, ⟨none, none, .store 1 (.reg 6) (.reg 23)⟩])
  (.seq (.seq (.ops [⟨(some 24), none, .load false 1 (.reg 4)⟩, ⟨(some 25), none, .call (.const (.func (.func 102) [] [])) [(.reg 24)]⟩])
  (.block 0 (.rangeF (.reg 25) [26] (.ops [⟨(some 7), none, .mov (.reg 26)⟩])
  (.block 1 (.seq (.ops [⟨(some 27), none, .load false 1 (.reg 4)⟩, ⟨(some 28), none, .nilCheck (.reg 27)⟩, ⟨(some 29), none, .addOff (.reg 28) 6⟩, ⟨(some 30), none, .load false 1 (.reg 29)⟩, ⟨(some 31), none, .mov (.reg 7)⟩, ⟨(some 32), none, .idxS 3 (.reg 30) (.reg 31)⟩, ⟨(some 33), none, .addOff (.reg 32) 2⟩, ⟨(some 34), none, .load false 1 (.reg 33)⟩, ⟨(some 35), none, .len .slice (.reg 34)⟩, ⟨(some 36), none, .mov (.const (.int .i64 0))⟩])
  (.block 2 (.loop
  (.seq (.ops [⟨(some 37), none, .bin .lss (.reg 36) (.reg 35)⟩])
  (.seq (.cond (.reg 37)
  .skip
  (.exit 2))
  (.seq (.block 3 (.seq (.ops [⟨(some 38), none, .idxS 2 (.reg 34) (.reg 36)⟩, ⟨(some 39), none, .load true 2 (.reg 38)⟩, ⟨(some 9), none, .alloc (.agg [(.int .i64 0), (.frz [] true)])⟩, ⟨none, none, .store 2 (.reg 9) (.reg 39)⟩])
  (.seq (.ops [⟨(some 40), none, .load false 1 (.reg 4)⟩, ⟨(some 41), none, .nilCheck (.reg 40)⟩, ⟨(some 42), none, .addOff (.reg 41) 0⟩, ⟨(some 43), none, .addOff (.reg 42) 0⟩, ⟨(some 44), none, .load false 1 (.reg 43)⟩, ⟨(some 45), none, .mov (.reg 7)⟩, ⟨(some 46), none, .idxS 3 (.reg 44) (.reg 45)⟩, ⟨(some 47), none, .addOff (.reg 46) 0⟩, ⟨(some 48), none, .load false 1 (.reg 47)⟩, ⟨(some 49), none, .call (.const (.func (.func 103) [] [])) [(.reg 48)]⟩])
  (.cond (.reg 49)
  (.ops [⟨(some 50), none, .load false 1 (.reg 6)⟩, ⟨(some 51), none, .addOff (.reg 9) 0⟩, ⟨(some 52), none, .load false 1 (.reg 51)⟩, ⟨(some 53), none, .idxS 1 (.reg 50) (.reg 52)⟩, ⟨none, none, .store 1 (.reg 53) (.const (.bool true))⟩])
  .skip))))
  (.ops [⟨(some 54), none, .bin .add (.reg 36) (.const (.int .i64 1))⟩, ⟨(some 36), none, .mov (.reg 54)⟩])))))))))))
  (.seq (.ops [⟨(some 10), none, .alloc (.frz [] true)⟩])
  (.seq (.ops [⟨(some 55), none, .mkFunc (.func 104) [] [(.reg 4), (.reg 6), (.reg 10)]⟩, ⟨(some 11), none, .mov (.reg 55)⟩])
  (.seq (.seq (.ops [⟨(some 56), none, .load false 1 (.reg 6)⟩, ⟨(some 57), none, .len .slice (.reg 56)⟩, ⟨(some 58), none, .mov (.const (.int .i64 0))⟩])
  (.block 4 (.loop
  (.seq (.ops [⟨(some 59), none, .bin .lss (.reg 58) (.reg 57)⟩])
  (.seq (.cond (.reg 59)
  .skip
  (.exit 4))
  (.seq (.block 5 (.seq (.ops [⟨(some 60), none, .mov (.reg 58)⟩, ⟨(some 61), none, .idxS 1 (.reg 56) (.reg 58)⟩, ⟨(some 62), none, .load false 1 (.reg 61)⟩, ⟨(some 12), none, .mov (.reg 60)⟩, ⟨(some 13), none, .mov (.reg 62)⟩])
  (.seq (.ops [⟨(some 63), none, .mov (.reg 13)⟩])
  (.cond (.reg 63)
  (.ops [⟨(some 64), none, .mov (.reg 11)⟩, ⟨(some 65), none, .mov (.reg 12)⟩, ⟨(some 66), none, .call (.reg 64) [(.reg 65)]⟩])
  .skip))))
  (.ops [⟨(some 67), none, .bin .add (.reg 58) (.const (.int .i64 1))⟩, ⟨(some 58), none, .mov (.reg 67)⟩])))))))
  (.seq (.ops [⟨(some 68), none, .load false 1 (.reg 10)⟩, ⟨(some 2), none, .mov (.reg 68)⟩, ⟨(some 3), none, .mov (.const (.int .i64 0))⟩])
  .ret)))))))))⟩
theorem c38 : EL.fns 38 = some F38 := fns_of Tryz.func38 (by kernel_rfl) (by kernel_rfl)

/-- hearth/hearthref12.SameStarts -/
def F39 : IFun := ⟨26, [.tmp 4], (.seq (.ops [⟨(some 4), none, .mov (.const (.bool false))⟩])
  (.seq (.seq (.ops [⟨(some 6), none, .mov (.reg 0)⟩, ⟨(some 7), none, .len .slice (.reg 6)⟩, ⟨(some 8), none, .mov (.reg 1)⟩, ⟨(some 9), none, .len .slice (.reg 8)⟩, ⟨(some 10), none, .eqv true (.one .int) (.reg 7) (.reg 9)⟩])
  (.cond (.reg 10)
  (.seq (.ops [⟨(some 4), none, .mov (.const (.bool false))⟩])
  .ret)
  .skip))
  (.seq (.seq (.ops [⟨(some 5), none, .mov (.const (.int .i64 0))⟩])
  (.block 0 (.loop
  (.seq (.seq (.ops [⟨(some 11), none, .mov (.reg 5)⟩, ⟨(some 12), none, .mov (.reg 0)⟩, ⟨(some 13), none, .len .slice (.reg 12)⟩, ⟨(some 14), none, .bin .lss (.reg 11) (.reg 13)⟩])
  (.cond (.reg 14)
  .skip
  (.exit 0)))
  (.seq (.block 1 (.seq (.draw [[], [(⟨(some 17), none, .mov (.reg 0)⟩, []), (⟨(some 18), none, .mov (.reg 5)⟩, []), (⟨(some 19), none, .idxS 2 (.reg 17) (.reg 18)⟩, [0, 1]), (⟨(some 20), none, .load true 2 (.reg 19)⟩, [0, 1, 2]), (⟨(some 21), none, .mov (.reg 1)⟩, []), (⟨(some 22), none, .mov (.reg 5)⟩, []), (⟨(some 23), none, .idxS 2 (.reg 21) (.reg 22)⟩, [4, 5]), (⟨(some 24), none, .load true 2 (.reg 23)⟩, [4, 5, 6])], [(⟨(some 25), none, .eqv true (.many [.int, .int]) (.reg 20) (.reg 24)⟩, [])]])
  (.cond (.reg 25)
  (.seq (.ops [⟨(some 4), none, .mov (.const (.bool false))⟩])
  .ret)
  .skip)))
  (.ops [⟨(some 15), none, .mov (.reg 5)⟩, ⟨(some 16), none, .bin .add (.reg 15) (.const (.int .i64 1))⟩, ⟨(some 5), none, .mov (.reg 16)⟩]))))))
  (.seq (.ops [⟨(some 4), none, .mov (.const (.bool true))⟩])
  .ret))))⟩
theorem c39 : EL.fns 39 = some F39 := fns_of Tryz.func39 (by kernel_rfl) (by kernel_rfl)

/-- hearth/hearthref12.Starts -/
def F40 : IFun := ⟨32, [.tmp 4], (.seq (.ops [⟨(some 2), none, .box (.reg 0)⟩, ⟨(some 4), none, .mov (.const (.frz [] true))⟩])
  (.seq (.ops [⟨(some 5), none, .mov (.const (.frz [] true))⟩])
  (.seq (.ops [⟨(some 8), none, .load true 5 (.reg 2)⟩, ⟨(some 9), none, .mov (.reg 1)⟩, ⟨(some 10), none, .call (.const (.func (.func 81) [] [])) [(.reg 8), (.reg 9)]⟩, ⟨(some 6), none, .mov (.reg 10)⟩])
  (.seq (.seq (.ops [⟨(some 7), none, .mov (.const (.int .i64 0))⟩])
  (.block 0 (.loop
  (.seq (.seq (.ops [⟨(some 11), none, .mov (.reg 7)⟩, ⟨(some 12), none, .mov (.reg 6)⟩, ⟨(some 13), none, .len .slice (.reg 12)⟩, ⟨(some 14), none, .bin .lss (.reg 11) (.reg 13)⟩])
  (.cond (.reg 14)
  .skip
  (.exit 0)))
  (.seq (.block 1 (.seq (.ops [⟨(some 17), none, .mov (.reg 6)⟩, ⟨(some 18), none, .mov (.reg 7)⟩, ⟨(some 19), none, .idxS 1 (.reg 17) (.reg 18)⟩, ⟨(some 20), none, .load false 1 (.reg 19)⟩])
  (.cond (.reg 20)
  (.ops [⟨(some 21), none, .mov (.reg 5)⟩, ⟨(some 22), none, .mov (.reg 7)⟩, ⟨(some 23), none, .mov (.reg 1)⟩, ⟨(some 24), none, .mov (.reg 7)⟩, ⟨(some 25), none, .idxS 3 (.reg 23) (.reg 24)⟩, ⟨(some 26), none, .addOff (.reg 25) 2⟩, ⟨(some 27), none, .load false 1 (.reg 26)⟩, ⟨(some 28), none, .build [(.int .i64 0), (.int .i64 0)] [(0, 1, (.reg 22)), (1, 1, (.reg 27))]⟩, ⟨(some 29), none, .buildSlice 2 (.agg [(.int .i64 0), (.int .i64 0)]) 1 [(0, (.reg 28))]⟩, ⟨(some 30), none, .append 2 16 (.reg 21) (.reg 29)⟩, ⟨(some 5), none, .mov (.reg 30)⟩])
  .skip)))
  (.ops [⟨(some 15), none, .mov (.reg 7)⟩, ⟨(some 16), none, .bin .add (.reg 15) (.const (.int .i64 1))⟩, ⟨(some 7), none, .mov (.reg 16)⟩]))))))
  (.seq (.ops [⟨(some 31), none, .mov (.reg 5)⟩, ⟨(some 4), none, .mov (.reg 31)⟩])
  .ret)))))⟩
theorem c40 : EL.fns 40 = some F40 := fns_of Tryz.func40 (by kernel_rfl) (by kernel_rfl)

/-- hearth/hearthref12.SameBlocks -/
def F41 : IFun := ⟨55, [.tmp 4], (.seq (.ops [⟨(some 4), none, .mov (.const (.bool false))⟩])
  (.seq (.seq (.ops [⟨(some 6), none, .mov (.reg 0)⟩, ⟨(some 7), none, .len .slice (.reg 6)⟩, ⟨(some 8), none, .mov (.reg 1)⟩, ⟨(some 9), none, .len .slice (.reg 8)⟩, ⟨(some 10), none, .eqv true (.one .int) (.reg 7) (.reg 9)⟩])
  (.cond (.reg 10)
  (.seq (.ops [⟨(some 4), none, .mov (.const (.bool false))⟩])
  .ret)
  .skip))
  (.seq (.seq (.ops [⟨(some 5), none, .mov (.const (.int .i64 0))⟩])
  (.block 0 (.loop
  (.seq (.seq (.ops [⟨(some 11), none, .mov (.reg 5)⟩, ⟨(some 12), none, .mov (.reg 0)⟩, ⟨(some 13), none, .len .slice (.reg 12)⟩, ⟨(some 14), none, .bin .lss (.reg 11) (.reg 13)⟩])
  (.cond (.reg 14)
  .skip
  (.exit 0)))
  (.seq (.block 1 (.seq (.draw [[], [(⟨(some 17), none, .mov (.reg 0)⟩, []), (⟨(some 18), none, .mov (.reg 5)⟩, []), (⟨(some 19), none, .idxS 3 (.reg 17) (.reg 18)⟩, [0, 1]), (⟨(some 20), none, .addOff (.reg 19) 0⟩, [0, 1, 2]), (⟨(some 21), none, .load false 1 (.reg 20)⟩, [0, 1, 2, 3]), (⟨(some 22), none, .mov (.reg 1)⟩, []), (⟨(some 23), none, .mov (.reg 5)⟩, []), (⟨(some 24), none, .idxS 3 (.reg 22) (.reg 23)⟩, [5, 6]), (⟨(some 25), none, .addOff (.reg 24) 0⟩, [5, 6, 7]), (⟨(some 26), none, .load false 1 (.reg 25)⟩, [5, 6, 7, 8])], [(⟨(some 27), none, .eqv true (.one .int) (.reg 21) (.reg 26)⟩, [])], [(⟨(some 28), none, .mov (.reg 27)⟩, [])], [(⟨(some 29), (some ((some 28), false)), .mov (.reg 0)⟩, []), (⟨(some 30), (some ((some 28), false)), .mov (.reg 5)⟩, []), (⟨(some 31), (some ((some 28), false)), .idxS 3 (.reg 29) (.reg 30)⟩, [0, 1]), (⟨(some 32), (some ((some 28), false)), .addOff (.reg 31) 1⟩, [0, 1, 2]), (⟨(some 33), (some ((some 28), false)), .load false 1 (.reg 32)⟩, [0, 1, 2, 3]), (⟨(some 34), (some ((some 28), false)), .mov (.reg 1)⟩, []), (⟨(some 35), (some ((some 28), false)), .mov (.reg 5)⟩, []), (⟨(some 36), (some ((some 28), false)), .idxS 3 (.reg 34) (.reg 35)⟩, [5, 6]), (⟨(some 37), (some ((some 28), false)), .addOff (.reg 36) 1⟩, [5, 6, 7]), (⟨(some 38), (some ((some 28), false)), .load false 1 (.reg 37)⟩, [5, 6, 7, 8])], [(⟨(some 39), (some ((some 28), false)), .eqv true (.one .int) (.reg 33) (.reg 38)⟩, [])], [(⟨(some 40), none, .pick (.reg 28) (.const (.bool true)) (.reg 39)⟩, [])], [(⟨(some 41), none, .mov (.reg 40)⟩, [])], [(⟨(some 42), (some ((some 41), false)), .mov (.reg 0)⟩, []), (⟨(some 43), (some ((some 41), false)), .mov (.reg 5)⟩, []), (⟨(some 44), (some ((some 41), false)), .idxS 3 (.reg 42) (.reg 43)⟩, [0, 1]), (⟨(some 45), (some ((some 41), false)), .addOff (.reg 44) 2⟩, [0, 1, 2]), (⟨(some 46), (some ((some 41), false)), .load false 1 (.reg 45)⟩, [0, 1, 2, 3]), (⟨(some 47), (some ((some 41), false)), .mov (.reg 1)⟩, []), (⟨(some 48), (some ((some 41), false)), .mov (.reg 5)⟩, []), (⟨(some 49), (some ((some 41), false)), .idxS 3 (.reg 47) (.reg 48)⟩, [5, 6]), (⟨(some 50), (some ((some 41), false)), .addOff (.reg 49) 2⟩, [5, 6, 7]), (⟨(some 51), (some ((some 41), false)), .load false 1 (.reg 50)⟩, [5, 6, 7, 8])], [(⟨(some 52), (some ((some 41), false)), .call (.const (.func (.func 82) [] [])) [(.reg 46), (.reg 51)]⟩, [])], [(⟨(some 53), (some ((some 41), false)), .un .not (.reg 52)⟩, [])], [(⟨(some 54), none, .pick (.reg 41) (.const (.bool true)) (.reg 53)⟩, [])]])
  (.cond (.reg 54)
  (.seq (.ops [⟨(some 4), none, .mov (.const (.bool false))⟩])
  .ret)
  .skip)))
  (.ops [⟨(some 15), none, .mov (.reg 5)⟩, ⟨(some 16), none, .bin .add (.reg 15) (.const (.int .i64 1))⟩, ⟨(some 5), none, .mov (.reg 16)⟩]))))))
  (.seq (.ops [⟨(some 4), none, .mov (.const (.bool true))⟩])
  .ret))))⟩
theorem c41 : EL.fns 41 = some F41 := fns_of Tryz.func41 (by kernel_rfl) (by kernel_rfl)

/-- hearth/hearthref12.Blocks -/
def F42 : IFun := ⟨61, [.tmp 4], (.seq (.ops [⟨(some 2), none, .box (.reg 0)⟩, ⟨(some 4), none, .mov (.const (.frz [] true))⟩])
  (.seq (.ops [⟨(some 5), none, .mov (.const (.frz [] true))⟩])
  (.seq (.ops [⟨(some 9), none, .load true 5 (.reg 2)⟩, ⟨(some 10), none, .mov (.reg 1)⟩, ⟨(some 11), none, .call (.const (.func (.func 105) [] [])) [(.reg 9), (.reg 10)]⟩, ⟨(some 6), none, .mov (.reg 11)⟩])
  (.seq (.seq (.ops [⟨(some 7), none, .mov (.const (.int .i64 0))⟩])
  (.block 0 (.loop
  (.seq (.seq (.ops [⟨(some 12), none, .mov (.reg 7)⟩, ⟨(some 13), none, .mov (.reg 1)⟩, ⟨(some 14), none, .len .slice (.reg 13)⟩, ⟨(some 15), none, .bin .lss (.reg 12) (.reg 14)⟩])
  (.cond (.reg 15)
  .skip
  (.exit 0)))
  (.seq (.block 1 (.seq (.seq (.ops [⟨(some 18), none, .mov (.reg 6)⟩, ⟨(some 19), none, .mov (.reg 7)⟩, ⟨(some 20), none, .idxS 1 (.reg 18) (.reg 19)⟩, ⟨(some 21), none, .load false 1 (.reg 20)⟩, ⟨(some 22), none, .un .not (.reg 21)⟩])
  (.cond (.reg 22)
  (.exit 1)
  .skip))
  (.seq (.ops [⟨(some 23), none, .mov (.reg 7)⟩, ⟨(some 24), none, .bin .add (.reg 23) (.const (.int .i64 1))⟩, ⟨(some 8), none, .mov (.reg 24)⟩])
  (.seq (.block 2 (.loop
  (.seq (.seq (.ops [⟨(some 25), none, .addOff (.reg 2) 0⟩, ⟨(some 26), none, .load false 1 (.reg 25)⟩, ⟨(some 27), none, .mov (.reg 8)⟩, ⟨(some 28), none, .bin .sub (.reg 27) (.const (.int .i64 1))⟩, ⟨(some 29), none, .idxS 3 (.reg 26) (.reg 28)⟩, ⟨(some 30), none, .load true 3 (.reg 29)⟩, ⟨(some 31), none, .call (.const (.func (.func 106) [] [])) [(.reg 30)]⟩, ⟨(some 32), none, .bin .lss (.reg 31) (.const (.int .i64 0))⟩, ⟨(some 33), none, .mov (.reg 32)⟩, ⟨(some 34), (some ((some 33), true)), .load true 5 (.reg 2)⟩, ⟨(some 35), (some ((some 33), true)), .mov (.reg 8)⟩, ⟨(some 36), (some ((some 33), true)), .bin .sub (.reg 35) (.const (.int .i64 1))⟩, ⟨(some 37), (some ((some 33), true)), .call (.const (.func (.func 95) [] [])) [(.reg 34), (.reg 36)]⟩, ⟨(some 38), (some ((some 33), true)), .len .slice (.reg 37)⟩, ⟨(some 39), (some ((some 33), true)), .bin .gtr (.reg 38) (.const (.int .i64 0))⟩, ⟨(some 40), none, .pick (.reg 33) (.reg 39) (.const (.bool false))⟩, ⟨(some 41), none, .mov (.reg 40)⟩, ⟨(some 42), (some ((some 41), true)), .mov (.reg 6)⟩, ⟨(some 43), (some ((some 41), true)), .mov (.reg 8)⟩, ⟨(some 44), (some ((some 41), true)), .idxS 1 (.reg 42) (.reg 43)⟩, ⟨(some 45), (some ((some 41), true)), .load false 1 (.reg 44)⟩, ⟨(some 46), (some ((some 41), true)), .un .not (.reg 45)⟩, ⟨(some 47), none, .pick (.reg 41) (.reg 46) (.const (.bool false))⟩])
  (.cond (.reg 47)
  .skip
  (.exit 2)))
  (.block 3 (.ops [⟨(some 48), none, .mov (.reg 8)⟩, ⟨(some 49), none, .bin .add (.reg 48) (.const (.int .i64 1))⟩, ⟨(some 8), none, .mov (.reg 49)⟩])))))
  (.ops [⟨(some 50), none, .mov (.reg 5)⟩, ⟨(some 51), none, .mov (.reg 7)⟩, ⟨(some 52), none, .mov (.reg 8)⟩, ⟨(some 53), none, .load true 5 (.reg 2)⟩, ⟨(some 54), none, .mov (.reg 8)⟩, ⟨(some 55), none, .bin .sub (.reg 54) (.const (.int .i64 1))⟩, ⟨(some 56), none, .call (.const (.func (.func 95) [] [])) [(.reg 53), (.reg 55)]⟩, ⟨(some 57), none, .build [(.int .i64 0), (.int .i64 0), (.frz [] true)] [(0, 1, (.reg 51)), (1, 1, (.reg 52)), (2, 1, (.reg 56))]⟩, ⟨(some 58), none, .buildSlice 3 (.agg [(.int .i64 0), (.int .i64 0), (.frz [] true)]) 1 [(0, (.reg 57))]⟩, ⟨(some 59), none, .append 3 40 (.reg 50) (.reg 58)⟩, ⟨(some 5), none, .mov (.reg 59)⟩])))))
  (.ops [⟨(some 16), none, .mov (.reg 7)⟩, ⟨(some 17), none, .bin .add (.reg 16) (.const (.int .i64 1))⟩, ⟨(some 7), none, .mov (.reg 17)⟩]))))))
  (.seq (.ops [⟨(some 60), none, .mov (.reg 5)⟩, ⟨(some 4), none, .mov (.reg 60)⟩])
  .ret)))))⟩
theorem c42 : EL.fns 42 = some F42 := fns_of Tryz.func42 (by kernel_rfl) (by kernel_rfl)

/-- slices.Sort[[]int,int] -/
def F46 : IFun := ⟨11, [], (.seq (.ops [⟨(some 3), none, .mov (.reg 0)⟩, ⟨(some 4), none, .len .slice (.reg 3)⟩, ⟨(some 2), none, .mov (.reg 4)⟩])
  (.ops [⟨(some 5), none, .mov (.reg 0)⟩, ⟨(some 6), none, .mov (.reg 2)⟩, ⟨(some 7), none, .mov (.reg 2)⟩, ⟨(some 8), none, .conv .u64 (.reg 7)⟩, ⟨(some 9), none, .call (.const (.func (.func 108) [] [])) [(.reg 8)]⟩, ⟨(some 10), none, .call (.const (.func (.func 107) [] [])) [(.reg 5), (.const (.int .i64 0)), (.reg 6), (.reg 9)]⟩]))⟩
theorem c46 : EL.fns 46 = some F46 := fns_of Tryz.func46 (by kernel_rfl) (by kernel_rfl)

/-- slices.Compact[[]int,int] -/
def F47 : IFun := ⟨61, [.tmp 2], (.seq (.ops [⟨(some 2), none, .mov (.const (.frz [] true))⟩])
  (.seq (.seq (.ops [⟨(some 6), none, .mov (.reg 0)⟩, ⟨(some 7), none, .len .slice (.reg 6)⟩, ⟨(some 8), none, .bin .lss (.reg 7) (.const (.int .i64 2))⟩])
  (.cond (.reg 8)
  (.seq (.ops [⟨(some 9), none, .mov (.reg 0)⟩, ⟨(some 2), none, .mov (.reg 9)⟩])
  .ret)
  .skip))
  (.seq (.seq (.ops [⟨(some 3), none, .mov (.const (.int .i64 1))⟩])
  (.block 0 (.loop
  (.seq (.seq (.ops [⟨(some 10), none, .mov (.reg 3)⟩, ⟨(some 11), none, .mov (.reg 0)⟩, ⟨(some 12), none, .len .slice (.reg 11)⟩, ⟨(some 13), none, .bin .lss (.reg 10) (.reg 12)⟩])
  (.cond (.reg 13)
  .skip
  (.exit 0)))
  (.seq (.block 1 (.seq (.draw [[], [(⟨(some 16), none, .mov (.reg 0)⟩, []), (⟨(some 17), none, .mov (.reg 3)⟩, []), (⟨(some 18), none, .idxS 1 (.reg 16) (.reg 17)⟩, [0, 1]), (⟨(some 19), none, .load false 1 (.reg 18)⟩, [0, 1, 2]), (⟨(some 20), none, .mov (.reg 0)⟩, []), (⟨(some 21), none, .mov (.reg 3)⟩, []), (⟨(some 22), none, .bin .sub (.reg 21) (.const (.int .i64 1))⟩, [5]), (⟨(some 23), none, .idxS 1 (.reg 20) (.reg 22)⟩, [4, 5, 6]), (⟨(some 24), none, .load false 1 (.reg 23)⟩, [4, 5, 6, 7])], [(⟨(some 25), none, .eqv false (.one .int) (.reg 19) (.reg 24)⟩, [])]])
  (.cond (.reg 25)
  (.seq (.ops [⟨(some 26), none, .mov (.reg 0)⟩, ⟨(some 27), none, .mov (.reg 3)⟩, ⟨(some 28), none, .slice 1 (.reg 26) (some (.reg 27)) none none⟩, ⟨(some 4), none, .mov (.reg 28)⟩])
  (.seq (.seq (.ops [⟨(some 5), none, .mov (.const (.int .i64 1))⟩])
  (.block 2 (.loop
  (.seq (.seq (.ops [⟨(some 29), none, .mov (.reg 5)⟩, ⟨(some 30), none, .mov (.reg 4)⟩, ⟨(some 31), none, .len .slice (.reg 30)⟩, ⟨(some 32), none, .bin .lss (.reg 29) (.reg 31)⟩])
  (.cond (.reg 32)
  .skip
  (.exit 2)))
  (.seq (.block 3 (.seq (.draw [[], [(⟨(some 35), none, .mov (.reg 4)⟩, []), (⟨(some 36), none, .mov (.reg 5)⟩, []), (⟨(some 37), none, .idxS 1 (.reg 35) (.reg 36)⟩, [0, 1]), (⟨(some 38), none, .load false 1 (.reg 37)⟩, [0, 1, 2]), (⟨(some 39), none, .mov (.reg 4)⟩, []), (⟨(some 40), none, .mov (.reg 5)⟩, []), (⟨(some 41), none, .bin .sub (.reg 40) (.const (.int .i64 1))⟩, [5]), (⟨(some 42), none, .idxS 1 (.reg 39) (.reg 41)⟩, [4, 5, 6]), (⟨(some 43), none, .load false 1 (.reg 42)⟩, [4, 5, 6, 7])], [(⟨(some 44), none, .eqv true (.one .int) (.reg 38) (.reg 43)⟩, [])]])
  (.cond (.reg 44)
  (.seq (.ops [⟨(some 45), none, .mov (.reg 0)⟩, ⟨(some 46), none, .mov (.reg 3)⟩, ⟨(some 47), none, .mov (.reg 4)⟩, ⟨(some 48), none, .mov (.reg 5)⟩, ⟨(some 49), none, .idxS 1 (.reg 47) (.reg 48)⟩, ⟨(some 50), none, .load false 1 (.reg 49)⟩, ⟨(some 51), none, .idxS 1 (.reg 45) (.reg 46)⟩, ⟨none, none, .store 1 (.reg 51) (.reg 50)⟩])
  (.ops [⟨(some 52), none, .mov (.reg 3)⟩, ⟨(some 53), none, .bin .add (.reg 52) (.const (.int .i64 1))⟩, ⟨(some 3), none, .mov (.reg 53)⟩]))
  .skip)))
  (.ops [⟨(some 33), none, .mov (.reg 5)⟩, ⟨(some 34), none, .bin .add (.reg 33) (.const (.int .i64 1))⟩, ⟨(some 5), none, .mov (.reg 34)⟩]))))))
  (.seq (.ops [⟨(some 54), none, .mov (.reg 0)⟩, ⟨(some 55), none, .mov (.reg 3)⟩, ⟨(some 56), none, .slice 1 (.reg 54) (some (.reg 55)) none none⟩, ⟨none, none, .clear 1 (.int .i64 0) (.reg 56)⟩])
  (.seq (.ops [⟨(some 57), none, .mov (.reg 0)⟩, ⟨(some 58), none, .mov (.reg 3)⟩, ⟨(some 59), none, .slice 1 (.reg 57) none (some (.reg 58)) none⟩, ⟨(some 2), none, .mov (.reg 59)⟩])
  .ret))))
  .skip)))
  (.ops [⟨(some 14), none, .mov (.reg 3)⟩, ⟨(some 15), none, .bin .add (.reg 14) (.const (.int .i64 1))⟩, ⟨(some 3), none, .mov (.reg 15)⟩]))))))
  (.seq (.ops [⟨(some 60), none, .mov (.reg 0)⟩, ⟨(some 2), none, .mov (.reg 60)⟩])
  .ret))))⟩
theorem c47 : EL.fns 47 = some F47 := fns_of Tryz.func47 (by kernel_rfl) (by kernel_rfl)

/-- slices.ContainsFunc[[]int,int] -/
def F48 : IFun := ⟨9, [.tmp 4], (.seq (.ops [⟨(some 4), none, .mov (.const (.bool false))⟩])
  (.seq (.ops [⟨(some 5), none, .mov (.reg 0)⟩, ⟨(some 6), none, .mov (.reg 1)⟩, ⟨(some 7), none, .call (.const (.func (.func 109) [] [])) [(.reg 5), (.reg 6)]⟩, ⟨(some 8), none, .bin .geq (.reg 7) (.const (.int .i64 0))⟩, ⟨(some 4), none, .mov (.reg 8)⟩])
  .ret))⟩
theorem c48 : EL.fns 48 = some F48 := fns_of Tryz.func48 (by kernel_rfl) (by kernel_rfl)

/-- hearth/hearthref10.SmallCode -/
def F61 : IFun := ⟨56, [.tmp 2], (.seq (.ops [⟨(some 1), none, .box (.reg 0)⟩, ⟨(some 2), none, .mov (.const (.bool false))⟩])
  (.seq (.seq (.ops [⟨(some 5), none, .addOff (.reg 1) 0⟩, ⟨(some 6), none, .load false 1 (.reg 5)⟩, ⟨(some 7), none, .len .slice (.reg 6)⟩, ⟨(some 8), none, .bin .gtr (.reg 7) (.const (.int .i64 1600))⟩, ⟨(some 9), none, .mov (.reg 8)⟩, ⟨(some 10), (some ((some 9), false)), .addOff (.reg 1) 1⟩, ⟨(some 11), (some ((some 9), false)), .load false 1 (.reg 10)⟩, ⟨(some 12), (some ((some 9), false)), .len .slice (.reg 11)⟩, ⟨(some 13), (some ((some 9), false)), .bin .gtr (.reg 12) (.const (.int .i64 120))⟩, ⟨(some 14), none, .pick (.reg 9) (.const (.bool true)) (.reg 13)⟩, ⟨(some 15), none, .mov (.reg 14)⟩, ⟨(some 16), (some ((some 15), false)), .addOff (.reg 1) 2⟩, ⟨(some 17), (some ((some 15), false)), .load false 1 (.reg 16)⟩, ⟨(some 18), (some ((some 15), false)), .len .slice (.reg 17)⟩, ⟨(some 19), (some ((some 15), false)), .bin .gtr (.reg 18) (.const (.int .i64 320))⟩, ⟨(some 20), none, .pick (.reg 15) (.const (.bool true)) (.reg 19)⟩, ⟨(some 21), none, .mov (.reg 20)⟩, ⟨(some 22), (some ((some 21), false)), .addOff (.reg 1) 4⟩, ⟨(some 23), (some ((some 21), false)), .load false 1 (.reg 22)⟩, ⟨(some 24), (some ((some 21), false)), .len .slice (.reg 23)⟩, ⟨(some 25), (some ((some 21), false)), .bin .gtr (.reg 24) (.const (.int .i64 30))⟩, ⟨(some 26), none, .pick (.reg 21) (.const (.bool true)) (.reg 25)⟩])
  (.cond (.reg 26)
  (.seq (.ops [⟨(some 2), none, .mov (.const (.bool false))⟩])
  .ret)
  .skip))
  (.seq (.seq (.ops [⟨(some 3), none, .mov (.const (.int .i64 0))⟩])
  (.block 0 (.loop
  (.seq (.seq (.ops [⟨(some 27), none, .mov (.reg 3)⟩, ⟨(some 28), none, .addOff (.reg 1) 1⟩, ⟨(some 29), none, .load false 1 (.reg 28)⟩, ⟨(some 30), none, .len .slice (.reg 29)⟩, ⟨(some 31), none, .bin .lss (.reg 27) (.reg 30)⟩])
  (.cond (.reg 31)
  .skip
  (.exit 0)))
  (.seq (.block 1 (.seq (.ops [⟨(some 34), none, .addOff (.reg 1) 1⟩, ⟨(some 35), none, .load false 1 (.reg 34)⟩, ⟨(some 36), none, .mov (.reg 3)⟩, ⟨(some 37), none, .idxS 4 (.reg 35) (.reg 36)⟩, ⟨(some 38), none, .load true 4 (.reg 37)⟩, ⟨(some 39), none, .call (.const (.func (.func 113) [] [])) [(.reg 38)]⟩, ⟨(some 40), none, .un .not (.reg 39)⟩])
  (.cond (.reg 40)
  (.seq (.ops [⟨(some 2), none, .mov (.const (.bool false))⟩])
  .ret)
  .skip)))
  (.ops [⟨(some 32), none, .mov (.reg 3)⟩, ⟨(some 33), none, .bin .add (.reg 32) (.const (.int .i64 1))⟩, ⟨(some 3), none, .mov (.reg 33)⟩]))))))
  (.seq (.seq (.ops [⟨(some 4), none, .mov (.const (.int .i64 0))⟩])
  (.block 2 (.loop
  (.seq (.seq (.ops [⟨(some 41), none, .mov (.reg 4)⟩, ⟨(some 42), none, .addOff (.reg 1) 4⟩, ⟨(some 43), none, .load false 1 (.reg 42)⟩, ⟨(some 44), none, .len .slice (.reg 43)⟩, ⟨(some 45), none, .bin .lss (.reg 41) (.reg 44)⟩])
  (.cond (.reg 45)
  .skip
  (.exit 2)))
  (.seq (.block 3 (.seq (.ops [⟨(some 48), none, .addOff (.reg 1) 4⟩, ⟨(some 49), none, .load false 1 (.reg 48)⟩, ⟨(some 50), none, .mov (.reg 4)⟩, ⟨(some 51), none, .idxS 2 (.reg 49) (.reg 50)⟩, ⟨(some 52), none, .addOff (.reg 51) 0⟩, ⟨(some 53), none, .load false 1 (.reg 52)⟩, ⟨(some 54), none, .len .str (.reg 53)⟩, ⟨(some 55), none, .bin .gtr (.reg 54) (.const (.int .i64 30))⟩])
  (.cond (.reg 55)
  (.seq (.ops [⟨(some 2), none, .mov (.const (.bool false))⟩])
  .ret)
  .skip)))
  (.ops [⟨(some 46), none, .mov (.reg 4)⟩, ⟨(some 47), none, .bin .add (.reg 46) (.const (.int .i64 1))⟩, ⟨(some 4), none, .mov (.reg 47)⟩]))))))
  (.seq (.ops [⟨(some 2), none, .mov (.const (.bool true))⟩])
  .ret)))))⟩
theorem c61 : EL.fns 61 = some F61 := fns_of Tryz.func61 (by kernel_rfl) (by kernel_rfl)

/-- hearth/hearthref10.Code -/
def F79 : IFun := ⟨98, [.tmp 2], (.seq (.ops [⟨(some 1), none, .box (.reg 0)⟩, ⟨(some 2), none, .mov (.const (.bool false))⟩])
  (.seq (.seq (.ops [⟨(some 6), none, .addOff (.reg 1) 0⟩, ⟨(some 7), none, .load false 1 (.reg 6)⟩, ⟨(some 8), none, .len .slice (.reg 7)⟩, ⟨(some 9), none, .call (.const (.func (.func 123) [] [])) [(.reg 8), (.const (.int .i64 1)), (.const (.int .i64 1500))]⟩, ⟨(some 10), none, .un .not (.reg 9)⟩, ⟨(some 11), none, .mov (.reg 10)⟩, ⟨(some 12), (some ((some 11), false)), .addOff (.reg 1) 1⟩, ⟨(some 13), (some ((some 11), false)), .load false 1 (.reg 12)⟩, ⟨(some 14), (some ((some 11), false)), .len .slice (.reg 13)⟩, ⟨(some 15), (some ((some 11), false)), .bin .gtr (.reg 14) (.const (.int .i64 100))⟩, ⟨(some 16), none, .pick (.reg 11) (.const (.bool true)) (.reg 15)⟩, ⟨(some 17), none, .mov (.reg 16)⟩, ⟨(some 18), (some ((some 17), false)), .addOff (.reg 1) 4⟩, ⟨(some 19), (some ((some 17), false)), .load false 1 (.reg 18)⟩, ⟨(some 20), (some ((some 17), false)), .call (.const (.func (.func 124) [] [])) [(.reg 19)]⟩, ⟨(some 21), (some ((some 17), false)), .un .not (.reg 20)⟩, ⟨(some 22), none, .pick (.reg 17) (.const (.bool true)) (.reg 21)⟩, ⟨(some 23), none, .mov (.reg 22)⟩, ⟨(some 24), (some ((some 23), false)), .addOff (.reg 1) 2⟩, ⟨(some 25), (some ((some 23), false)), .load false 1 (.reg 24)⟩, ⟨(some 26), (some ((some 23), false)), .len .slice (.reg 25)⟩, ⟨(some 27), (some ((some 23), false)), .call (.const (.func (.func 123) [] [])) [(.reg 26), (.const (.int .i64 1)), (.const (.int .i64 300))]⟩, ⟨(some 28), (some ((some 23), false)), .un .not (.reg 27)⟩, ⟨(some 29), none, .pick (.reg 23) (.const (.bool true)) (.reg 28)⟩, ⟨(some 30), none, .mov (.reg 29)⟩, ⟨(some 31), (some ((some 30), false)), .addOff (.reg 1) 3⟩, ⟨(some 32), (some ((some 30), false)), .load false 1 (.reg 31)⟩, ⟨(some 33), (some ((some 30), false)), .addOff (.reg 1) 2⟩, ⟨(some 34), (some ((some 30), false)), .load false 1 (.reg 33)⟩, ⟨(some 35), (some ((some 30), false)), .len .slice (.reg 34)⟩, ⟨(some 36), (some ((some 30), false)), .bin .sub (.reg 35) (.const (.int .i64 1))⟩, ⟨(some 37), (some ((some 30), false)), .call (.const (.func (.func 123) [] [])) [(.reg 32), (.const (.int .i64 0)), (.reg 36)]⟩, ⟨(some 38), (some ((some 30), false)), .un .not (.reg 37)⟩, ⟨(some 39), none, .pick (.reg 30) (.const (.bool true)) (.reg 38)⟩])
  (.cond (.reg 39)
  (.seq (.ops [⟨(some 2), none, .mov (.const (.bool false))⟩])
  .ret)
  .skip))
  (.seq (.seq (.ops [⟨(some 3), none, .mov (.const (.int .i64 0))⟩])
  (.block 0 (.loop
  (.seq (.seq (.ops [⟨(some 40), none, .mov (.reg 3)⟩, ⟨(some 41), none, .addOff (.reg 1) 1⟩, ⟨(some 42), none, .load false 1 (.reg 41)⟩, ⟨(some 43), none, .len .slice (.reg 42)⟩, ⟨(some 44), none, .bin .lss (.reg 40) (.reg 43)⟩])
  (.cond (.reg 44)
  .skip
  (.exit 0)))
  (.seq (.block 1 (.seq (.draw [[], [(⟨(some 47), none, .addOff (.reg 1) 1⟩, []), (⟨(some 48), none, .load false 1 (.reg 47)⟩, [0]), (⟨(some 49), none, .mov (.reg 3)⟩, [])], [(⟨(some 50), none, .idxS 4 (.reg 48) (.reg 49)⟩, [])], [(⟨(some 51), none, .load true 4 (.reg 50)⟩, [])], [(⟨(some 52), none, .call (.const (.func (.func 125) [] [])) [(.reg 51), (.const (.int .i64 12))]⟩, [])], [(⟨(some 53), none, .bin .lss (.reg 52) (.const (.int .i64 0))⟩, [])], [(⟨(some 54), none, .mov (.reg 53)⟩, [])], [(⟨(some 55), (some ((some 54), false)), .addOff (.reg 1) 1⟩, []), (⟨(some 56), (some ((some 54), false)), .load false 1 (.reg 55)⟩, [0]), (⟨(some 57), (some ((some 54), false)), .mov (.reg 3)⟩, []), (⟨(some 58), (some ((some 54), false)), .idxS 4 (.reg 56) (.reg 57)⟩, [0, 1, 2]), (⟨(some 59), (some ((some 54), false)), .load true 4 (.reg 58)⟩, [0, 1, 2, 3]), (⟨(some 60), (some ((some 54), false)), .addOff (.reg 1) 4⟩, []), (⟨(some 61), (some ((some 54), false)), .load false 1 (.reg 60)⟩, [5])], [(⟨(some 62), (some ((some 54), false)), .call (.const (.func (.func 126) [] [])) [(.reg 59), (.reg 61)]⟩, [])], [(⟨(some 63), (some ((some 54), false)), .un .not (.reg 62)⟩, [])], [(⟨(some 64), none, .pick (.reg 54) (.const (.bool true)) (.reg 63)⟩, [])]])
  (.cond (.reg 64)
  (.seq (.ops [⟨(some 2), none, .mov (.const (.bool false))⟩])
  .ret)
  .skip)))
  (.ops [⟨(some 45), none, .mov (.reg 3)⟩, ⟨(some 46), none, .bin .add (.reg 45) (.const (.int .i64 1))⟩, ⟨(some 3), none, .mov (.reg 46)⟩]))))))
  (.seq (.seq (.ops [⟨(some 4), none, .mov (.const (.int .i64 0))⟩])
  (.block 2 (.loop
  (.seq (.seq (.ops [⟨(some 65), none, .mov (.reg 4)⟩, ⟨(some 66), none, .addOff (.reg 1) 2⟩, ⟨(some 67), none, .load false 1 (.reg 66)⟩, ⟨(some 68), none, .len .slice (.reg 67)⟩, ⟨(some 69), none, .bin .lss (.reg 65) (.reg 68)⟩])
  (.cond (.reg 69)
  .skip
  (.exit 2)))
  (.seq (.block 3 (.seq (.draw [[], [(⟨(some 72), none, .addOff (.reg 1) 2⟩, []), (⟨(some 73), none, .load false 1 (.reg 72)⟩, [0]), (⟨(some 74), none, .mov (.reg 4)⟩, []), (⟨(some 75), none, .idxS 1 (.reg 73) (.reg 74)⟩, [0, 1, 2]), (⟨(some 76), none, .load false 1 (.reg 75)⟩, [0, 1, 2, 3]), (⟨(some 77), none, .addOff (.reg 1) 0⟩, []), (⟨(some 78), none, .load false 1 (.reg 77)⟩, [5]), (⟨(some 79), none, .len .slice (.reg 78)⟩, [5, 6]), (⟨(some 80), none, .bin .sub (.reg 79) (.const (.int .i64 1))⟩, [5, 6, 7])], [(⟨(some 81), none, .call (.const (.func (.func 123) [] [])) [(.reg 76), (.const (.int .i64 0)), (.reg 80)]⟩, [])], [(⟨(some 82), none, .un .not (.reg 81)⟩, [])]])
  (.cond (.reg 82)
  (.seq (.ops [⟨(some 2), none, .mov (.const (.bool false))⟩])
  .ret)
  .skip)))
  (.ops [⟨(some 70), none, .mov (.reg 4)⟩, ⟨(some 71), none, .bin .add (.reg 70) (.const (.int .i64 1))⟩, ⟨(some 4), none, .mov (.reg 71)⟩]))))))
  (.seq (.seq (.ops [⟨(some 5), none, .mov (.const (.int .i64 0))⟩])
  (.block 4 (.loop
  (.seq (.seq (.ops [⟨(some 83), none, .mov (.reg 5)⟩, ⟨(some 84), none, .addOff (.reg 1) 0⟩, ⟨(some 85), none, .load false 1 (.reg 84)⟩, ⟨(some 86), none, .len .slice (.reg 85)⟩, ⟨(some 87), none, .bin .lss (.reg 83) (.reg 86)⟩])
  (.cond (.reg 87)
  .skip
  (.exit 4)))
  (.seq (.block 5 (.seq (.draw [[], [(⟨(some 90), none, .load true 5 (.reg 1)⟩, []), (⟨(some 91), none, .addOff (.reg 1) 0⟩, []), (⟨(some 92), none, .load false 1 (.reg 91)⟩, [1]), (⟨(some 93), none, .mov (.reg 5)⟩, []), (⟨(some 94), none, .idxS 3 (.reg 92) (.reg 93)⟩, [1, 2, 3]), (⟨(some 95), none, .load true 3 (.reg 94)⟩, [1, 2, 3, 4])], [(⟨(some 96), none, .call (.const (.func (.func 127) [] [])) [(.reg 90), (.reg 95)]⟩, [])], [(⟨(some 97), none, .un .not (.reg 96)⟩, [])]])
  (.cond (.reg 97)
  (.seq (.ops [⟨(some 2), none, .mov (.const (.bool false))⟩])
  .ret)
  .skip)))
  (.ops [⟨(some 88), none, .mov (.reg 5)⟩, ⟨(some 89), none, .bin .add (.reg 88) (.const (.int .i64 1))⟩, ⟨(some 5), none, .mov (.reg 89)⟩]))))))
  (.seq (.ops [⟨(some 2), none, .mov (.const (.bool true))⟩])
  .ret))))))⟩
theorem c79 : EL.fns 79 = some F79 := fns_of Tryz.func79 (by kernel_rfl) (by kernel_rfl)

/-- hearth/hearthref10.Depths -/
def F80 : IFun := ⟨101, [.tmp 2, .tmp 3], (.seq (.ops [⟨(some 1), none, .box (.reg 0)⟩, ⟨(some 2), none, .mov (.const (.frz [] true))⟩, ⟨(some 3), none, .mov (.const (.bool false))⟩])
  (.seq (.ops [⟨(some 12), none, .addOff (.reg 1) 0⟩, ⟨(some 13), none, .load false 1 (.reg 12)⟩, ⟨(some 14), none, .len .slice (.reg 13)⟩, ⟨(some 15), none, .mkSlice 3 24 (.agg [(.bool false), (.int .i64 0), (.int .i64 0)]) (.reg 14) (.reg 14)⟩, ⟨(some 4), none, .mov (.reg 15)⟩])
  (.seq (.ops [⟨(some 5), none, .mov (.const (.frz [] true))⟩])
  (.seq (.seq (.ops [⟨(some 6), none, .mov (.const (.int .i64 0))⟩])
  (.block 0 (.loop
  (.seq (.seq (.ops [⟨(some 16), none, .mov (.reg 6)⟩, ⟨(some 17), none, .addOff (.reg 1) 2⟩, ⟨(some 18), none, .load false 1 (.reg 17)⟩, ⟨(some 19), none, .len .slice (.reg 18)⟩, ⟨(some 20), none, .bin .lss (.reg 16) (.reg 19)⟩])
  (.cond (.reg 20)
  .skip
  (.exit 0)))
  (.seq (.block 1 (.draw [[], [(⟨(some 23), none, .mov (.reg 5)⟩, []), (⟨(some 24), none, .addOff (.reg 1) 2⟩, []), (⟨(some 25), none, .load false 1 (.reg 24)⟩, [1]), (⟨(some 26), none, .mov (.reg 6)⟩, []), (⟨(some 27), none, .idxS 1 (.reg 25) (.reg 26)⟩, [1, 2, 3]), (⟨(some 28), none, .load false 1 (.reg 27)⟩, [1, 2, 3, 4]), (⟨(some 29), none, .call (.const (.func (.func 128) [] [])) [(.const (.int .i64 0)), (.const (.int .i64 1))]⟩, []), (⟨(some 30), none, .build [(.int .i64 0), (.bool false), (.int .i64 0), (.int .i64 0)] [(0, 1, (.reg 28)), (1, 3, (.reg 29))]⟩, [1, 2, 3, 4, 5, 6]), (⟨(some 31), none, .buildSlice 4 (.agg [(.int .i64 0), (.bool false), (.int .i64 0), (.int .i64 0)]) 1 [(0, (.reg 30))]⟩, [1, 2, 3, 4, 5, 6, 7])], [(⟨(some 32), none, .append 4 32 (.reg 23) (.reg 31)⟩, [])], [(⟨(some 5), none, .mov (.reg 32)⟩, [])]]))
  (.ops [⟨(some 21), none, .mov (.reg 6)⟩, ⟨(some 22), none, .bin .add (.reg 21) (.const (.int .i64 1))⟩, ⟨(some 6), none, .mov (.reg 22)⟩]))))))
  (.seq (.seq (.ops [⟨(some 7), none, .mov (.const (.int .i64 0))⟩])
  (.block 2 (.loop
  (.seq (.seq (.ops [⟨(some 33), none, .mov (.reg 7)⟩, ⟨(some 34), none, .mov (.reg 5)⟩, ⟨(some 35), none, .len .slice (.reg 34)⟩, ⟨(some 36), none, .bin .lss (.reg 33) (.reg 35)⟩])
  (.cond (.reg 36)
  .skip
  (.exit 2)))
  (.seq (.block 3 (.seq (.draw [[], [(⟨(some 39), none, .mov (.reg 5)⟩, []), (⟨(some 40), none, .mov (.reg 7)⟩, []), (⟨(some 41), none, .idxS 4 (.reg 39) (.reg 40)⟩, [0, 1]), (⟨(some 42), none, .addOff (.reg 41) 0⟩, [0, 1, 2]), (⟨(some 43), none, .load false 1 (.reg 42)⟩, [0, 1, 2, 3]), (⟨(some 44), none, .mov (.reg 5)⟩, []), (⟨(some 45), none, .mov (.reg 7)⟩, []), (⟨(some 46), none, .idxS 4 (.reg 44) (.reg 45)⟩, [5, 6]), (⟨(some 47), none, .addOff (.reg 46) 1⟩, [5, 6, 7]), (⟨(some 48), none, .load true 3 (.reg 47)⟩, [5, 6, 7, 8]), (⟨(some 9), none, .alloc (.agg [(.bool false), (.int .i64 0), (.int .i64 0)])⟩, []), (⟨(some 8), none, .mov (.reg 43)⟩, [0, 1, 2, 3, 4, 10])], [(⟨none, none, .store 3 (.reg 9) (.reg 48)⟩, [])]])
  (.seq (.seq (.draw [[], [(⟨(some 49), none, .mov (.reg 8)⟩, []), (⟨(some 50), none, .addOff (.reg 1) 0⟩, []), (⟨(some 51), none, .load false 1 (.reg 50)⟩, [1]), (⟨(some 52), none, .len .slice (.reg 51)⟩, [1, 2])], [(⟨(some 53), none, .bin .geq (.reg 49) (.reg 52)⟩, [])], [(⟨(some 54), none, .mov (.reg 53)⟩, [])], [(⟨(some 55), (some ((some 54), false)), .addOff (.reg 9) 1⟩, [])], [(⟨(some 56), (some ((some 54), false)), .load false 1 (.reg 55)⟩, [])], [(⟨(some 57), (some ((some 54), false)), .bin .gtr (.reg 56) (.const (.int .i64 60))⟩, [])], [(⟨(some 58), none, .pick (.reg 54) (.const (.bool true)) (.reg 57)⟩, [])], [(⟨(some 59), none, .mov (.reg 58)⟩, [])], [(⟨(some 60), (some ((some 59), false)), .addOff (.reg 9) 2⟩, [])], [(⟨(some 61), (some ((some 59), false)), .load false 1 (.reg 60)⟩, [])], [(⟨(some 62), (some ((some 59), false)), .bin .gtr (.reg 61) (.const (.int .i64 30))⟩, [])], [(⟨(some 63), none, .pick (.reg 59) (.const (.bool true)) (.reg 62)⟩, [])], [(⟨(some 64), none, .mov (.reg 63)⟩, [])], [(⟨(some 65), (some ((some 64), false)), .mov (.reg 4)⟩, []), (⟨(some 66), (some ((some 64), false)), .mov (.reg 8)⟩, [])], [(⟨(some 67), (some ((some 64), false)), .idxS 3 (.reg 65) (.reg 66)⟩, [])], [(⟨(some 68), (some ((some 64), false)), .addOff (.reg 67) 0⟩, [])], [(⟨(some 69), (some ((some 64), false)), .load false 1 (.reg 68)⟩, [])], [(⟨(some 70), (some ((some 64), false)), .mov (.reg 69)⟩, [])], [(⟨(some 71), (some ((some 70), true)), .mov (.reg 4)⟩, []), (⟨(some 72), (some ((some 70), true)), .mov (.reg 8)⟩, []), (⟨(some 73), (some ((some 70), true)), .idxS 3 (.reg 71) (.reg 72)⟩, [0, 1]), (⟨(some 74), (some ((some 70), true)), .load true 3 (.reg 73)⟩, [0, 1, 2]), (⟨(some 75), (some ((some 70), true)), .load true 3 (.reg 9)⟩, [])], [(⟨(some 76), (some ((some 70), true)), .eqv true (.many [.bool, .int, .int]) (.reg 74) (.reg 75)⟩, [])], [(⟨(some 77), (some ((some 64), false)), .pick (.reg 70) (.reg 76) (.const (.bool false))⟩, [])], [(⟨(some 78), none, .pick (.reg 64) (.const (.bool true)) (.reg 77)⟩, [])]])
  (.cond (.reg 78)
  (.seq (.ops [⟨(some 2), none, .mov (.const (.frz [] true))⟩, ⟨(some 3), none, .mov (.const (.bool false))⟩])
  .ret)
  .skip))
  (.seq (.seq (.ops [⟨(some 79), none, .mov (.reg 4)⟩, ⟨(some 80), none, .mov (.reg 8)⟩, ⟨(some 81), none, .idxS 3 (.reg 79) (.reg 80)⟩, ⟨(some 82), none, .addOff (.reg 81) 0⟩, ⟨(some 83), none, .load false 1 (.reg 82)⟩])
  (.cond (.reg 83)
  (.exit 3)
  .skip))
  (.seq (.ops [⟨(some 84), none, .mov (.reg 4)⟩, ⟨(some 85), none, .mov (.reg 8)⟩, ⟨(some 86), none, .load true 3 (.reg 9)⟩, ⟨(some 87), none, .idxS 3 (.reg 84) (.reg 85)⟩, ⟨none, none, .store 3 (.reg 87) (.reg 86)⟩])
  (.seq (.ops [⟨(some 89), none, .load true 5 (.reg 1)⟩, ⟨(some 90), none, .mov (.reg 8)⟩, ⟨(some 91), none, .load true 3 (.reg 9)⟩, ⟨(some 92), none, .call (.const (.func (.func 129) [] [])) [(.reg 89), (.reg 90), (.reg 91)]⟩, ⟨(some 88), none, .mov (.reg 92)⟩, ⟨(some 93), none, .extract (.reg 88) 0⟩, ⟨(some 94), none, .extract (.reg 88) 1⟩, ⟨(some 10), none, .mov (.reg 93)⟩, ⟨(some 11), none, .mov (.reg 94)⟩])
  (.seq (.seq (.ops [⟨(some 95), none, .mov (.reg 11)⟩, ⟨(some 96), none, .un .not (.reg 95)⟩])
  (.cond (.reg 96)
  (.seq (.ops [⟨(some 2), none, .mov (.const (.frz [] true))⟩, ⟨(some 3), none, .mov (.const (.bool false))⟩])
  .ret)
  .skip))
  (.ops [⟨(some 97), none, .mov (.reg 5)⟩, ⟨(some 98), none, .mov (.reg 10)⟩, ⟨(some 99), none, .append 4 32 (.reg 97) (.reg 98)⟩, ⟨(some 5), none, .mov (.reg 99)⟩]))))))))
  (.ops [⟨(some 37), none, .mov (.reg 7)⟩, ⟨(some 38), none, .bin .add (.reg 37) (.const (.int .i64 1))⟩, ⟨(some 7), none, .mov (.reg 38)⟩]))))))
  (.seq (.ops [⟨(some 100), none, .mov (.reg 4)⟩, ⟨(some 2), none, .mov (.reg 100)⟩, ⟨(some 3), none, .mov (.const (.bool true))⟩])
  .ret))))))⟩
theorem c80 : EL.fns 80 = some F80 := fns_of Tryz.func80 (by kernel_rfl) (by kernel_rfl)

/-- hearth/hearthref12.starts -/
def F81 : IFun := ⟨54, [.tmp 4], (.seq (.ops [⟨(some 2), none, .box (.reg 0)⟩, ⟨(some 4), none, .mov (.const (.frz [] true))⟩])
  (.seq (.ops [⟨(some 8), none, .mov (.reg 1)⟩, ⟨(some 9), none, .len .slice (.reg 8)⟩, ⟨(some 10), none, .mkSlice 1 1 (.bool false) (.reg 9) (.reg 9)⟩, ⟨(some 5), none, .mov (.reg 10)⟩])
  (.seq (.seq (.ops [⟨(some 6), none, .mov (.const (.int .i64 0))⟩])
  (.block 0 (.loop
  (.seq (.seq (.ops [⟨(some 11), none, .mov (.reg 6)⟩, ⟨(some 12), none, .addOff (.reg 2) 2⟩, ⟨(some 13), none, .load false 1 (.reg 12)⟩, ⟨(some 14), none, .len .slice (.reg 13)⟩, ⟨(some 15), none, .bin .lss (.reg 11) (.reg 14)⟩])
  (.cond (.reg 15)
  .skip
  (.exit 0)))
  (.seq (.block 1 (.ops [⟨(some 18), none, .mov (.reg 5)⟩, ⟨(some 19), none, .addOff (.reg 2) 2⟩, ⟨(some 20), none, .load false 1 (.reg 19)⟩, ⟨(some 21), none, .mov (.reg 6)⟩, ⟨(some 22), none, .idxS 1 (.reg 20) (.reg 21)⟩, ⟨(some 23), none, .load false 1 (.reg 22)⟩, ⟨(some 24), none, .idxS 1 (.reg 18) (.reg 23)⟩, ⟨none, none, .store 1 (.reg 24) (.const (.bool true))⟩]))
  (.ops [⟨(some 16), none, .mov (.reg 6)⟩, ⟨(some 17), none, .bin .add (.reg 16) (.const (.int .i64 1))⟩, ⟨(some 6), none, .mov (.reg 17)⟩]))))))
  (.seq (.seq (.ops [⟨(some 7), none, .mov (.const (.int .i64 0))⟩])
  (.block 2 (.loop
  (.seq (.seq (.ops [⟨(some 25), none, .mov (.reg 7)⟩, ⟨(some 26), none, .mov (.reg 1)⟩, ⟨(some 27), none, .len .slice (.reg 26)⟩, ⟨(some 28), none, .bin .lss (.reg 25) (.reg 27)⟩])
  (.cond (.reg 28)
  .skip
  (.exit 2)))
  (.seq (.block 3 (.seq (.ops [⟨(some 31), none, .mov (.reg 1)⟩, ⟨(some 32), none, .mov (.reg 7)⟩, ⟨(some 33), none, .idxS 3 (.reg 31) (.reg 32)⟩, ⟨(some 34), none, .addOff (.reg 33) 0⟩, ⟨(some 35), none, .load false 1 (.reg 34)⟩, ⟨(some 36), none, .mov (.reg 35)⟩, ⟨(some 37), (some ((some 36), true)), .addOff (.reg 2) 0⟩, ⟨(some 38), (some ((some 36), true)), .load false 1 (.reg 37)⟩, ⟨(some 39), (some ((some 36), true)), .mov (.reg 7)⟩, ⟨(some 40), (some ((some 36), true)), .idxS 3 (.reg 38) (.reg 39)⟩, ⟨(some 41), (some ((some 36), true)), .addOff (.reg 40) 0⟩, ⟨(some 42), (some ((some 36), true)), .load false 1 (.reg 41)⟩, ⟨(some 43), (some ((some 36), true)), .call (.const (.func (.func 130) [] [])) [(.reg 42)]⟩, ⟨(some 44), none, .pick (.reg 36) (.reg 43) (.const (.bool false))⟩])
  (.cond (.reg 44)
  (.ops [⟨(some 45), none, .mov (.reg 5)⟩, ⟨(some 46), none, .addOff (.reg 2) 0⟩, ⟨(some 47), none, .load false 1 (.reg 46)⟩, ⟨(some 48), none, .mov (.reg 7)⟩, ⟨(some 49), none, .idxS 3 (.reg 47) (.reg 48)⟩, ⟨(some 50), none, .addOff (.reg 49) 1⟩, ⟨(some 51), none, .load false 1 (.reg 50)⟩, ⟨(some 52), none, .idxS 1 (.reg 45) (.reg 51)⟩, ⟨none, none, .store 1 (.reg 52) (.const (.bool true))⟩])
  .skip)))
  (.ops [⟨(some 29), none, .mov (.reg 7)⟩, ⟨(some 30), none, .bin .add (.reg 29) (.const (.int .i64 1))⟩, ⟨(some 7), none, .mov (.reg 30)⟩]))))))
  (.seq (.ops [⟨(some 53), none, .mov (.reg 5)⟩, ⟨(some 4), none, .mov (.reg 53)⟩])
  .ret)))))⟩
theorem c81 : EL.fns 81 = some F81 := fns_of Tryz.func81 (by kernel_rfl) (by kernel_rfl)

/-- hearth/hearthref05.Numbers -/
def F82 : IFun := ⟨8, [.tmp 4], (.seq (.ops [⟨(some 4), none, .mov (.const (.bool false))⟩])
  (.seq (.ops [⟨(some 5), none, .mov (.reg 0)⟩, ⟨(some 6), none, .mov (.reg 1)⟩, ⟨(some 7), none, .call (.const (.func (.func 131) [] [])) [(.reg 5), (.reg 6)]⟩, ⟨(some 4), none, .mov (.reg 7)⟩])
  .ret))⟩
theorem c82 : EL.fns 82 = some F82 := fns_of Tryz.func82 (by kernel_rfl) (by kernel_rfl)

/-- hearth/hearthref12.follow -/
def F95 : IFun := ⟨47, [.tmp 4], (.seq (.ops [⟨(some 2), none, .box (.reg 0)⟩, ⟨(some 4), none, .mov (.const (.frz [] true))⟩])
  (.seq (.ops [⟨(some 7), none, .addOff (.reg 2) 0⟩, ⟨(some 8), none, .load false 1 (.reg 7)⟩, ⟨(some 9), none, .mov (.reg 1)⟩, ⟨(some 10), none, .idxS 3 (.reg 8) (.reg 9)⟩, ⟨(some 11), none, .load true 3 (.reg 10)⟩, ⟨(some 12), none, .call (.const (.func (.func 106) [] [])) [(.reg 11)]⟩, ⟨(some 5), none, .mov (.reg 12)⟩])
  (.seq (.ops [⟨(some 13), none, .mov (.reg 1)⟩, ⟨(some 14), none, .bin .add (.reg 13) (.const (.int .i64 1))⟩, ⟨(some 6), none, .mov (.reg 14)⟩])
  (.seq (.seq (.ops [⟨(some 15), none, .addOff (.reg 2) 0⟩, ⟨(some 16), none, .load false 1 (.reg 15)⟩, ⟨(some 17), none, .mov (.reg 1)⟩, ⟨(some 18), none, .idxS 3 (.reg 16) (.reg 17)⟩, ⟨(some 19), none, .addOff (.reg 18) 0⟩, ⟨(some 20), none, .load false 1 (.reg 19)⟩, ⟨(some 21), none, .call (.const (.func (.func 137) [] [])) [(.reg 20)]⟩])
  (.cond (.reg 21)
  (.seq (.ops [⟨(some 4), none, .mov (.const (.frz [] true))⟩])
  .ret)
  .skip))
  (.seq (.seq (.ops [⟨(some 22), none, .addOff (.reg 2) 0⟩, ⟨(some 23), none, .load false 1 (.reg 22)⟩, ⟨(some 24), none, .mov (.reg 1)⟩, ⟨(some 25), none, .idxS 3 (.reg 23) (.reg 24)⟩, ⟨(some 26), none, .addOff (.reg 25) 0⟩, ⟨(some 27), none, .load false 1 (.reg 26)⟩, ⟨(some 28), none, .eqv false (.one .int) (.reg 27) (.const (.int .i64 11))⟩, ⟨(some 29), none, .mov (.reg 28)⟩, ⟨(some 30), (some ((some 29), false)), .mov (.reg 5)⟩, ⟨(some 31), (some ((some 29), false)), .mov (.reg 6)⟩, ⟨(some 32), (some ((some 29), false)), .eqv false (.one .int) (.reg 30) (.reg 31)⟩, ⟨(some 33), none, .pick (.reg 29) (.const (.bool true)) (.reg 32)⟩])
  (.cond (.reg 33)
  (.seq (.ops [⟨(some 34), none, .mov (.reg 5)⟩, ⟨(some 35), none, .buildSlice 1 (.int .i64 0) 1 [(0, (.reg 34))]⟩, ⟨(some 4), none, .mov (.reg 35)⟩])
  .ret)
  .skip))
  (.seq (.seq (.ops [⟨(some 36), none, .mov (.reg 5)⟩, ⟨(some 37), none, .bin .lss (.reg 36) (.const (.int .i64 0))⟩])
  (.cond (.reg 37)
  (.seq (.ops [⟨(some 38), none, .mov (.reg 6)⟩, ⟨(some 39), none, .buildSlice 1 (.int .i64 0) 1 [(0, (.reg 38))]⟩, ⟨(some 4), none, .mov (.reg 39)⟩])
  .ret)
  .skip))
  (.seq (.ops [⟨(some 40), none, .mov (.reg 5)⟩, ⟨(some 41), none, .mov (.reg 6)⟩, ⟨(some 42), none, .min2 (.reg 40) (.reg 41)⟩, ⟨(some 43), none, .mov (.reg 5)⟩, ⟨(some 44), none, .mov (.reg 6)⟩, ⟨(some 45), none, .max2 (.reg 43) (.reg 44)⟩, ⟨(some 46), none, .buildSlice 1 (.int .i64 0) 2 [(0, (.reg 42)), (1, (.reg 45))]⟩, ⟨(some 4), none, .mov (.reg 46)⟩])
  .ret)))))))⟩
theorem c95 : EL.fns 95 = some F95 := fns_of Tryz.func95 (by kernel_rfl) (by kernel_rfl)

/-- hearth/live.opened -/
def F97 : IFun := ⟨49, [.tmp 2, .tmp 3], (.seq (.ops [⟨(some 1), none, .box (.reg 0)⟩, ⟨(some 2), none, .mov (.const .nilp)⟩, ⟨(some 3), none, .mov (.const (.int .i64 0))⟩])
  (.seq (.ops [⟨(some 10), none, .load true 5 (.reg 1)⟩, ⟨(some 11), none, .call (.const (.func (.func 138) [] [])) [(.reg 10)]⟩, ⟨(some 9), none, .mov (.reg 11)⟩, ⟨(some 12), none, .extract (.reg 9) 0⟩, ⟨(some 13), none, .extract (.reg 9) 1⟩, ⟨(some 4), none, .mov (.reg 12)⟩, ⟨(some 5), none, .mov (.reg 13)⟩])
  (.seq (.seq (.ops [⟨(some 14), none, .mov (.reg 5)⟩, ⟨(some 15), none, .eqv true (.one .int) (.reg 14) (.const (.int .i64 0))⟩])
  (.cond (.reg 15)
  (.seq (.ops [⟨(some 16), none, .mov (.reg 5)⟩, ⟨(some 2), none, .mov (.const .nilp)⟩, ⟨(some 3), none, .mov (.reg 16)⟩])
  .ret)
  .skip))
  (.seq (.draw [[], [(⟨(some 17), none, .load true 5 (.reg 1)⟩, []), (⟨(some 18), none, .mov (.reg 4)⟩, []), (⟨(some 19), none, .addOff (.reg 1) 0⟩, []), (⟨(some 20), none, .load false 1 (.reg 19)⟩, [2]), (⟨(some 21), none, .len .slice (.reg 20)⟩, [2, 3]), (⟨(some 22), none, .mkSlice 3 72 (.agg [(.frz [] true), (.frz [] true), (.frz [] true)]) (.reg 21) (.reg 21)⟩, [2, 3, 4])], [(⟨(some 23), none, .build [(.frz [] true), (.frz [] true), (.frz [] true), (.int .i64 0), (.frz [] true), (.frz [] true), (.frz [] true)] [(0, 5, (.reg 17)), (5, 1, (.reg 18)), (6, 1, (.reg 22))]⟩, [])], [(⟨(some 24), none, .box (.reg 23)⟩, [])], [(⟨(some 6), none, .mov (.reg 24)⟩, [])]])
  (.seq (.ops [⟨(some 25), none, .call (.const (.func (.func 139) [] [])) []⟩, ⟨(some 7), none, .mov (.reg 25)⟩])
  (.seq (.seq (.ops [⟨(some 26), none, .addOff (.reg 1) 0⟩, ⟨(some 27), none, .load false 1 (.reg 26)⟩, ⟨(some 28), none, .len .slice (.reg 27)⟩, ⟨(some 29), none, .mov (.const (.int .i64 0))⟩])
  (.block 0 (.loop
  (.seq (.ops [⟨(some 30), none, .bin .lss (.reg 29) (.reg 28)⟩])
  (.seq (.cond (.reg 30)
  .skip
  (.exit 0))
  (.seq (.block 1 (.seq (.ops [⟨(some 31), none, .mov (.reg 29)⟩, ⟨(some 8), none, .mov (.reg 31)⟩])
  (.seq (.ops [⟨(some 32), none, .mov (.reg 4)⟩, ⟨(some 33), none, .mov (.reg 8)⟩, ⟨(some 34), none, .idxS 3 (.reg 32) (.reg 33)⟩, ⟨(some 35), none, .addOff (.reg 34) 0⟩, ⟨(some 36), none, .load false 1 (.reg 35)⟩])
  (.cond (.reg 36)
  (.draw [[], [(⟨(some 37), none, .mov (.reg 6)⟩, []), (⟨(some 38), none, .nilCheck (.reg 37)⟩, [0]), (⟨(some 39), none, .addOff (.reg 38) 6⟩, [0, 1]), (⟨(some 40), none, .load false 1 (.reg 39)⟩, [0, 1, 2]), (⟨(some 41), none, .mov (.reg 8)⟩, []), (⟨(some 42), none, .mov (.reg 6)⟩, []), (⟨(some 43), none, .mov (.reg 8)⟩, []), (⟨(some 44), none, .mov (.reg 7)⟩, []), (⟨(some 45), none, .call (.const (.func (.func 140) [] [])) [(.reg 42), (.reg 43), (.reg 44)]⟩, [5, 6, 7])], [(⟨(some 46), none, .idxS 3 (.reg 40) (.reg 41)⟩, [])], [(⟨none, none, .store 3 (.reg 46) (.reg 45)⟩, [])]])
  .skip))))
  (.ops [⟨(some 47), none, .bin .add (.reg 29) (.const (.int .i64 1))⟩, ⟨(some 29), none, .mov (.reg 47)⟩])))))))
  (.seq (.ops [⟨(some 48), none, .mov (.reg 6)⟩, ⟨(some 2), none, .mov (.reg 48)⟩, ⟨(some 3), none, .mov (.const (.int .i64 0))⟩])
  .ret)))))))⟩
theorem c97 : EL.fns 97 = some F97 := fns_of Tryz.func97 (by kernel_rfl) (by kernel_rfl)

/-- (*hearth/live.program).starts -/
def F101 : IFun := ⟨59, [.tmp 2], (.seq (.ops [⟨(some 1), none, .box (.reg 0)⟩, ⟨(some 2), none, .mov (.const (.frz [] true))⟩])
  (.seq (.ops [⟨(some 8), none, .load false 1 (.reg 1)⟩, ⟨(some 9), none, .nilCheck (.reg 8)⟩, ⟨(some 10), none, .addOff (.reg 9) 0⟩, ⟨(some 11), none, .addOff (.reg 10) 0⟩, ⟨(some 12), none, .load false 1 (.reg 11)⟩, ⟨(some 13), none, .len .slice (.reg 12)⟩, ⟨(some 14), none, .mkSlice 1 1 (.bool false) (.reg 13) (.reg 13)⟩, ⟨(some 3), none, .alloc (.frz [] true)⟩, ⟨none, none, .store 1 (.reg 3) (.reg 14)⟩])
  (.seq (.seq (.ops [⟨(some 15), none, .load false 1 (.reg 1)⟩, ⟨(some 16), none, .nilCheck (.reg 15)⟩, ⟨(some 17), none, .addOff (.reg 16) 0⟩, ⟨(some 18), none, .addOff (.reg 17) 2⟩, ⟨(some 19), none, .load false 1 (.reg 18)⟩, ⟨(some 20), none, .len .slice (.reg 19)⟩, ⟨(some 21), none, .mov (.const (.int .i64 0))⟩])
  (.block 0 (.loop
  (.seq (.ops [⟨(some 22), none, .bin .lss (.reg 21) (.reg 20)⟩])
  (.seq (.cond (.reg 22)
  .skip
  (.exit 0))
  (.seq (.block 1 (.seq (.ops [⟨(some 23), none, .idxS 1 (.reg 19) (.reg 21)⟩, ⟨(some 24), none, .load false 1 (.reg 23)⟩, ⟨(some 5), none, .mov (.reg 24)⟩])
  (.draw [[], [(⟨(some 25), none, .load false 1 (.reg 3)⟩, []), (⟨(some 26), none, .mov (.reg 5)⟩, []), (⟨(some 27), none, .load false 1 (.reg 1)⟩, []), (⟨(some 28), none, .nilCheck (.reg 27)⟩, [2]), (⟨(some 29), none, .addOff (.reg 28) 5⟩, [2, 3]), (⟨(some 30), none, .load false 1 (.reg 29)⟩, [2, 3, 4]), (⟨(some 31), none, .mov (.reg 5)⟩, []), (⟨(some 32), none, .idxS 3 (.reg 30) (.reg 31)⟩, [2, 3, 4, 5, 6]), (⟨(some 33), none, .addOff (.reg 32) 0⟩, [2, 3, 4, 5, 6, 7]), (⟨(some 34), none, .load false 1 (.reg 33)⟩, [2, 3, 4, 5, 6, 7, 8])], [(⟨(some 35), none, .idxS 1 (.reg 25) (.reg 26)⟩, [])], [(⟨none, none, .store 1 (.reg 35) (.reg 34)⟩, [])]])))
  (.ops [⟨(some 36), none, .bin .add (.reg 21) (.const (.int .i64 1))⟩, ⟨(some 21), none, .mov (.reg 36)⟩])))))))
  (.seq (.seq (.ops [⟨(some 37), none, .load false 1 (.reg 1)⟩, ⟨(some 38), none, .call (.const (.func (.func 102) [] [])) [(.reg 37)]⟩])
  (.block 2 (.rangeF (.reg 38) [39] (.ops [⟨(some 6), none, .mov (.reg 39)⟩])
  (.block 3 (.seq (.ops [⟨(some 40), none, .load false 1 (.reg 1)⟩, ⟨(some 41), none, .nilCheck (.reg 40)⟩, ⟨(some 42), none, .addOff (.reg 41) 0⟩, ⟨(some 43), none, .addOff (.reg 42) 0⟩, ⟨(some 44), none, .load false 1 (.reg 43)⟩, ⟨(some 45), none, .mov (.reg 6)⟩, ⟨(some 46), none, .idxS 3 (.reg 44) (.reg 45)⟩, ⟨(some 47), none, .load true 3 (.reg 46)⟩, ⟨(some 7), none, .alloc (.agg [(.int .i64 0), (.int .i64 0), (.int .i64 0)])⟩, ⟨none, none, .store 3 (.reg 7) (.reg 47)⟩])
  (.seq (.ops [⟨(some 48), none, .addOff (.reg 7) 0⟩, ⟨(some 49), none, .load false 1 (.reg 48)⟩])
  (.block 4 (.seq (.seq (.ops [⟨(some 51), none, .eqv false (.one .int) (.reg 49) (.const (.int .i64 6))⟩, ⟨(some 50), none, .mov (.reg 51)⟩])
  (.cond (.reg 50)
  .skip
  (.seq (.ops [⟨(some 52), none, .eqv false (.one .int) (.reg 49) (.const (.int .i64 31))⟩, ⟨(some 50), none, .mov (.reg 52)⟩])
  (.cond (.reg 50)
  .skip
  (.ops [⟨(some 53), none, .eqv false (.one .int) (.reg 49) (.const (.int .i64 32))⟩, ⟨(some 50), none, .mov (.reg 53)⟩])))))
  (.cond (.reg 50)
  (.ops [⟨(some 54), none, .load false 1 (.reg 3)⟩, ⟨(some 55), none, .addOff (.reg 7) 1⟩, ⟨(some 56), none, .load false 1 (.reg 55)⟩, ⟨(some 57), none, .idxS 1 (.reg 54) (.reg 56)⟩, ⟨none, none, .store 1 (.reg 57) (.const (.bool true))⟩])
  .skip)))))))))
  (.seq (.ops [⟨(some 58), none, .load false 1 (.reg 3)⟩, ⟨(some 2), none, .mov (.reg 58)⟩])
  .ret)))))⟩
theorem c101 : EL.fns 101 = some F101 := fns_of Tryz.func101 (by kernel_rfl) (by kernel_rfl)

/-- (*hearth/live.program).reached -/
def F102 : IFun := ⟨4, [.tmp 2], (.seq (.ops [⟨(some 1), none, .box (.reg 0)⟩, ⟨(some 2), none, .mov (.const .nilf)⟩])
  (.seq (.ops [⟨(some 3), none, .mkFunc (.func 142) [] [(.reg 1)]⟩, ⟨(some 2), none, .mov (.reg 3)⟩])
  .ret))⟩
theorem c102 : EL.fns 102 = some F102 := fns_of Tryz.func102 (by kernel_rfl) (by kernel_rfl)

/-- hearth/live.branches -/
def F103 : IFun := ⟨13, [.tmp 2], (.seq (.ops [⟨(some 2), none, .mov (.const (.bool false))⟩])
  (.seq (.ops [⟨(some 3), none, .mov (.reg 0)⟩, ⟨(some 4), none, .eqv false (.one .int) (.reg 3) (.const (.int .i64 11))⟩, ⟨(some 5), none, .mov (.reg 4)⟩, ⟨(some 6), (some ((some 5), false)), .mov (.reg 0)⟩, ⟨(some 7), (some ((some 5), false)), .eqv false (.one .int) (.reg 6) (.const (.int .i64 12))⟩, ⟨(some 8), none, .pick (.reg 5) (.const (.bool true)) (.reg 7)⟩, ⟨(some 9), none, .mov (.reg 8)⟩, ⟨(some 10), (some ((some 9), false)), .mov (.reg 0)⟩, ⟨(some 11), (some ((some 9), false)), .eqv false (.one .int) (.reg 10) (.const (.int .i64 19))⟩, ⟨(some 12), none, .pick (.reg 9) (.const (.bool true)) (.reg 11)⟩, ⟨(some 2), none, .mov (.reg 12)⟩])
  .ret))⟩
theorem c103 : EL.fns 103 = some F103 := fns_of Tryz.func103 (by kernel_rfl) (by kernel_rfl)

/-- hearth/live.Blocks$1 -/
def F104 : IFun := ⟨85, [], (.seq (.ops [⟨(some 9), none, .mov (.reg 0)⟩, ⟨(some 10), none, .mov (.reg 0)⟩, ⟨(some 11), none, .bin .add (.reg 10) (.const (.int .i64 1))⟩, ⟨(some 12), none, .build [(.int .i64 0), (.int .i64 0), (.frz [] true)] [(0, 1, (.reg 9)), (1, 1, (.reg 11))]⟩, ⟨(some 5), none, .alloc (.agg [(.int .i64 0), (.int .i64 0), (.frz [] true)])⟩, ⟨none, none, .store 3 (.reg 5) (.reg 12)⟩])
  (.seq (.seq (.ops [⟨(some 13), none, .mov (.reg 0)⟩, ⟨(some 6), none, .mov (.reg 13)⟩])
  (.block 0 (.loop
  (.seq (.seq (.ops [⟨(some 14), none, .load false 1 (.reg 1)⟩, ⟨(some 15), none, .nilCheck (.reg 14)⟩, ⟨(some 16), none, .addOff (.reg 15) 0⟩, ⟨(some 17), none, .addOff (.reg 16) 0⟩, ⟨(some 18), none, .load false 1 (.reg 17)⟩, ⟨(some 19), none, .mov (.reg 6)⟩, ⟨(some 20), none, .idxS 3 (.reg 18) (.reg 19)⟩, ⟨(some 21), none, .addOff (.reg 20) 0⟩, ⟨(some 22), none, .load false 1 (.reg 21)⟩, ⟨(some 23), none, .call (.const (.func (.func 103) [] [])) [(.reg 22)]⟩, ⟨(some 24), none, .un .not (.reg 23)⟩, ⟨(some 25), none, .mov (.reg 24)⟩, ⟨(some 26), (some ((some 25), true)), .load false 1 (.reg 1)⟩, ⟨(some 27), (some ((some 25), true)), .nilCheck (.reg 26)⟩, ⟨(some 28), (some ((some 25), true)), .addOff (.reg 27) 6⟩, ⟨(some 29), (some ((some 25), true)), .load false 1 (.reg 28)⟩, ⟨(some 30), (some ((some 25), true)), .mov (.reg 6)⟩, ⟨(some 31), (some ((some 25), true)), .idxS 3 (.reg 29) (.reg 30)⟩, ⟨(some 32), (some ((some 25), true)), .addOff (.reg 31) 2⟩, ⟨(some 33), (some ((some 25), true)), .load false 1 (.reg 32)⟩, ⟨(some 34), (some ((some 25), true)), .len .slice (.reg 33)⟩, ⟨(some 35), (some ((some 25), true)), .bin .gtr (.reg 34) (.const (.int .i64 0))⟩, ⟨(some 36), none, .pick (.reg 25) (.reg 35) (.const (.bool false))⟩, ⟨(some 37), none, .mov (.reg 36)⟩, ⟨(some 38), (some ((some 37), true)), .load false 1 (.reg 2)⟩, ⟨(some 39), (some ((some 37), true)), .addOff (.reg 5) 1⟩, ⟨(some 40), (some ((some 37), true)), .load false 1 (.reg 39)⟩, ⟨(some 41), (some ((some 37), true)), .idxS 1 (.reg 38) (.reg 40)⟩, ⟨(some 42), (some ((some 37), true)), .load false 1 (.reg 41)⟩, ⟨(some 43), (some ((some 37), true)), .un .not (.reg 42)⟩, ⟨(some 44), none, .pick (.reg 37) (.reg 43) (.const (.bool false))⟩])
  (.cond (.reg 44)
  .skip
  (.exit 0)))
  (.seq (.block 1 (.ops [⟨(some 47), none, .addOff (.reg 5) 1⟩, ⟨(some 48), none, .load false 1 (.reg 47)⟩, ⟨(some 49), none, .bin .add (.reg 48) (.const (.int .i64 1))⟩, ⟨(some 50), none, .addOff (.reg 5) 1⟩, ⟨none, none, .store 1 (.reg 50) (.reg 49)⟩]))
  (.ops [⟨(some 45), none, .mov (.reg 6)⟩, ⟨(some 46), none, .bin .add (.reg 45) (.const (.int .i64 1))⟩, ⟨(some 6), none, .mov (.reg 46)⟩]))))))
  (.seq (.seq (.draw [[], [(⟨(some 51), none, .load false 1 (.reg 1)⟩, []), (⟨(some 52), none, .nilCheck (.reg 51)⟩, [0]), (⟨(some 53), none, .addOff (.reg 52) 6⟩, [0, 1]), (⟨(some 54), none, .load false 1 (.reg 53)⟩, [0, 1, 2]), (⟨(some 55), none, .addOff (.reg 5) 1⟩, []), (⟨(some 56), none, .load false 1 (.reg 55)⟩, [4]), (⟨(some 57), none, .bin .sub (.reg 56) (.const (.int .i64 1))⟩, [4, 5]), (⟨(some 58), none, .idxS 3 (.reg 54) (.reg 57)⟩, [0, 1, 2, 3, 4, 5, 6]), (⟨(some 59), none, .addOff (.reg 58) 2⟩, [0, 1, 2, 3, 4, 5, 6, 7]), (⟨(some 60), none, .load false 1 (.reg 59)⟩, [0, 1, 2, 3, 4, 5, 6, 7, 8]), (⟨(some 61), none, .len .slice (.reg 60)⟩, [0, 1, 2, 3, 4, 5, 6, 7, 8, 9]), (⟨(some 62), none, .mov (.const (.int .i64 0))⟩, [])]])
  (.block 2 (.loop
  (.seq (.ops [⟨(some 63), none, .bin .lss (.reg 62) (.reg 61)⟩])
  (.seq (.cond (.reg 63)
  .skip
  (.exit 2))
  (.seq (.block 3 (.seq (.ops [⟨(some 64), none, .idxS 2 (.reg 60) (.reg 62)⟩, ⟨(some 65), none, .load true 2 (.reg 64)⟩, ⟨(some 8), none, .alloc (.agg [(.int .i64 0), (.frz [] true)])⟩, ⟨none, none, .store 2 (.reg 8) (.reg 65)⟩])
  (.ops [⟨(some 66), none, .addOff (.reg 5) 2⟩, ⟨(some 67), none, .load false 1 (.reg 66)⟩, ⟨(some 68), none, .addOff (.reg 8) 0⟩, ⟨(some 69), none, .load false 1 (.reg 68)⟩, ⟨(some 70), none, .buildSlice 1 (.int .i64 0) 1 [(0, (.reg 69))]⟩, ⟨(some 71), none, .append 1 8 (.reg 67) (.reg 70)⟩, ⟨(some 72), none, .addOff (.reg 5) 2⟩, ⟨none, none, .store 1 (.reg 72) (.reg 71)⟩])))
  (.ops [⟨(some 73), none, .bin .add (.reg 62) (.const (.int .i64 1))⟩, ⟨(some 62), none, .mov (.reg 73)⟩])))))))
  (.seq (.ops [⟨(some 74), none, .addOff (.reg 5) 2⟩, ⟨(some 75), none, .load false 1 (.reg 74)⟩, ⟨(some 76), none, .call (.const (.func (.func 46) [] [])) [(.reg 75)]⟩])
  (.seq (.ops [⟨(some 77), none, .addOff (.reg 5) 2⟩, ⟨(some 78), none, .load false 1 (.reg 77)⟩, ⟨(some 79), none, .call (.const (.func (.func 47) [] [])) [(.reg 78)]⟩, ⟨(some 80), none, .addOff (.reg 5) 2⟩, ⟨none, none, .store 1 (.reg 80) (.reg 79)⟩])
  (.ops [⟨(some 81), none, .load false 1 (.reg 3)⟩, ⟨(some 82), none, .load true 3 (.reg 5)⟩, ⟨(some 83), none, .buildSlice 3 (.agg [(.int .i64 0), (.int .i64 0), (.frz [] true)]) 1 [(0, (.reg 82))]⟩, ⟨(some 84), none, .append 3 40 (.reg 81) (.reg 83)⟩, ⟨none, none, .store 1 (.reg 3) (.reg 84)⟩]))))))⟩
theorem c104 : EL.fns 104 = some F104 := fns_of Tryz.func104 (by kernel_rfl) (by kernel_rfl)

/-- hearth/hearthref12.leaders -/
def F105 : IFun := ⟨47, [.tmp 4], (.seq (.ops [⟨(some 2), none, .box (.reg 0)⟩, ⟨(some 4), none, .mov (.const (.frz [] true))⟩])
  (.seq (.ops [⟨(some 8), none, .load true 5 (.reg 2)⟩, ⟨(some 9), none, .mov (.reg 1)⟩, ⟨(some 10), none, .call (.const (.func (.func 81) [] [])) [(.reg 8), (.reg 9)]⟩, ⟨(some 5), none, .mov (.reg 10)⟩])
  (.seq (.seq (.ops [⟨(some 6), none, .mov (.const (.int .i64 0))⟩])
  (.block 0 (.loop
  (.seq (.seq (.ops [⟨(some 11), none, .mov (.reg 6)⟩, ⟨(some 12), none, .mov (.reg 1)⟩, ⟨(some 13), none, .len .slice (.reg 12)⟩, ⟨(some 14), none, .bin .lss (.reg 11) (.reg 13)⟩])
  (.cond (.reg 14)
  .skip
  (.exit 0)))
  (.seq (.block 1 (.seq (.ops [⟨(some 17), none, .addOff (.reg 2) 0⟩, ⟨(some 18), none, .load false 1 (.reg 17)⟩, ⟨(some 19), none, .mov (.reg 6)⟩, ⟨(some 20), none, .idxS 3 (.reg 18) (.reg 19)⟩, ⟨(some 21), none, .load true 3 (.reg 20)⟩, ⟨(some 22), none, .call (.const (.func (.func 106) [] [])) [(.reg 21)]⟩, ⟨(some 7), none, .mov (.reg 22)⟩])
  (.seq (.ops [⟨(some 23), none, .mov (.reg 1)⟩, ⟨(some 24), none, .mov (.reg 6)⟩, ⟨(some 25), none, .idxS 3 (.reg 23) (.reg 24)⟩, ⟨(some 26), none, .addOff (.reg 25) 0⟩, ⟨(some 27), none, .load false 1 (.reg 26)⟩, ⟨(some 28), none, .mov (.reg 27)⟩, ⟨(some 29), (some ((some 28), true)), .mov (.reg 7)⟩, ⟨(some 30), (some ((some 28), true)), .bin .geq (.reg 29) (.const (.int .i64 0))⟩, ⟨(some 31), none, .pick (.reg 28) (.reg 30) (.const (.bool false))⟩])
  (.cond (.reg 31)
  (.seq (.ops [⟨(some 32), none, .mov (.reg 5)⟩, ⟨(some 33), none, .mov (.reg 7)⟩, ⟨(some 34), none, .idxS 1 (.reg 32) (.reg 33)⟩, ⟨none, none, .store 1 (.reg 34) (.const (.bool true))⟩])
  (.seq (.ops [⟨(some 35), none, .addOff (.reg 2) 0⟩, ⟨(some 36), none, .load false 1 (.reg 35)⟩, ⟨(some 37), none, .mov (.reg 6)⟩, ⟨(some 38), none, .idxS 3 (.reg 36) (.reg 37)⟩, ⟨(some 39), none, .addOff (.reg 38) 0⟩, ⟨(some 40), none, .load false 1 (.reg 39)⟩, ⟨(some 41), none, .eqv true (.one .int) (.reg 40) (.const (.int .i64 11))⟩])
  (.cond (.reg 41)
  (.ops [⟨(some 42), none, .mov (.reg 5)⟩, ⟨(some 43), none, .mov (.reg 6)⟩, ⟨(some 44), none, .bin .add (.reg 43) (.const (.int .i64 1))⟩, ⟨(some 45), none, .idxS 1 (.reg 42) (.reg 44)⟩, ⟨none, none, .store 1 (.reg 45) (.const (.bool true))⟩])
  .skip)))
  .skip))))
  (.ops [⟨(some 15), none, .mov (.reg 6)⟩, ⟨(some 16), none, .bin .add (.reg 15) (.const (.int .i64 1))⟩, ⟨(some 6), none, .mov (.reg 16)⟩]))))))
  (.seq (.ops [⟨(some 46), none, .mov (.reg 5)⟩, ⟨(some 4), none, .mov (.reg 46)⟩])
  .ret))))⟩
theorem c105 : EL.fns 105 = some F105 := fns_of Tryz.func105 (by kernel_rfl) (by kernel_rfl)

/-- hearth/hearthref12.target -/
def F106 : IFun := ⟨14, [.tmp 2], (.seq (.ops [⟨(some 1), none, .box (.reg 0)⟩, ⟨(some 2), none, .mov (.const (.int .i64 0))⟩])
  (.seq (.seq (.ops [⟨(some 3), none, .addOff (.reg 1) 0⟩, ⟨(some 4), none, .load false 1 (.reg 3)⟩])
  (.block 0 (.seq (.seq (.ops [⟨(some 6), none, .eqv false (.one .int) (.reg 4) (.const (.int .i64 11))⟩, ⟨(some 5), none, .mov (.reg 6)⟩])
  (.cond (.reg 5)
  .skip
  (.ops [⟨(some 7), none, .eqv false (.one .int) (.reg 4) (.const (.int .i64 12))⟩, ⟨(some 5), none, .mov (.reg 7)⟩])))
  (.cond (.reg 5)
  (.seq (.ops [⟨(some 8), none, .addOff (.reg 1) 1⟩, ⟨(some 9), none, .load false 1 (.reg 8)⟩, ⟨(some 2), none, .mov (.reg 9)⟩])
  .ret)
  (.seq (.ops [⟨(some 11), none, .eqv false (.one .int) (.reg 4) (.const (.int .i64 19))⟩, ⟨(some 10), none, .mov (.reg 11)⟩])
  (.cond (.reg 10)
  (.seq (.ops [⟨(some 12), none, .addOff (.reg 1) 2⟩, ⟨(some 13), none, .load false 1 (.reg 12)⟩, ⟨(some 2), none, .mov (.reg 13)⟩])
  .ret)
  .skip))))))
  (.seq (.ops [⟨(some 2), none, .mov (.const (.int .i64 (-1)))⟩])
  .ret)))⟩
theorem c106 : EL.fns 106 = some F106 := fns_of Tryz.func106 (by kernel_rfl) (by kernel_rfl)

/-- slices.pdqsortOrdered[int] -/
def F107 : IFun := ⟨134, [], (.seq (.ops [⟨(some 8), none, .mov (.const (.bool true))⟩])
  (.seq (.ops [⟨(some 9), none, .mov (.const (.bool true))⟩])
  (.block 0 (.loop
  (.block 1 (.seq (.ops [⟨(some 19), none, .mov (.reg 2)⟩, ⟨(some 20), none, .mov (.reg 1)⟩, ⟨(some 21), none, .bin .sub (.reg 19) (.reg 20)⟩, ⟨(some 10), none, .mov (.reg 21)⟩])
  (.seq (.seq (.ops [⟨(some 22), none, .mov (.reg 10)⟩, ⟨(some 23), none, .bin .leq (.reg 22) (.const (.int .i64 12))⟩])
  (.cond (.reg 23)
  (.seq (.ops [⟨(some 24), none, .mov (.reg 0)⟩, ⟨(some 25), none, .mov (.reg 1)⟩, ⟨(some 26), none, .mov (.reg 2)⟩, ⟨(some 27), none, .call (.const (.func (.func 143) [] [])) [(.reg 24), (.reg 25), (.reg 26)]⟩])
  .ret)
  .skip))
  (.seq (.seq (.ops [⟨(some 28), none, .mov (.reg 3)⟩, ⟨(some 29), none, .eqv false (.one .int) (.reg 28) (.const (.int .i64 0))⟩])
  (.cond (.reg 29)
  (.seq (.ops [⟨(some 30), none, .mov (.reg 0)⟩, ⟨(some 31), none, .mov (.reg 1)⟩, ⟨(some 32), none, .mov (.reg 2)⟩, ⟨(some 33), none, .call (.const (.func (.func 144) [] [])) [(.reg 30), (.reg 31), (.reg 32)]⟩])
  .ret)
  .skip))
  (.seq (.seq (.ops [⟨(some 34), none, .mov (.reg 8)⟩, ⟨(some 35), none, .un .not (.reg 34)⟩])
  (.cond (.reg 35)
  (.seq (.ops [⟨(some 36), none, .mov (.reg 0)⟩, ⟨(some 37), none, .mov (.reg 1)⟩, ⟨(some 38), none, .mov (.reg 2)⟩, ⟨(some 39), none, .call (.const (.func (.func 145) [] [])) [(.reg 36), (.reg 37), (.reg 38)]⟩])
  (.ops [⟨(some 40), none, .mov (.reg 3)⟩, ⟨(some 41), none, .bin .sub (.reg 40) (.const (.int .i64 1))⟩, ⟨(some 3), none, .mov (.reg 41)⟩]))
  .skip))
  (.seq (.ops [⟨(some 43), none, .mov (.reg 0)⟩, ⟨(some 44), none, .mov (.reg 1)⟩, ⟨(some 45), none, .mov (.reg 2)⟩, ⟨(some 46), none, .call (.const (.func (.func 146) [] [])) [(.reg 43), (.reg 44), (.reg 45)]⟩, ⟨(some 42), none, .mov (.reg 46)⟩, ⟨(some 47), none, .extract (.reg 42) 0⟩, ⟨(some 48), none, .extract (.reg 42) 1⟩, ⟨(some 11), none, .mov (.reg 47)⟩, ⟨(some 12), none, .mov (.reg 48)⟩])
  (.seq (.seq (.ops [⟨(some 49), none, .mov (.reg 12)⟩, ⟨(some 50), none, .eqv false (.one .int) (.reg 49) (.const (.int .i64 2))⟩])
  (.cond (.reg 50)
  (.seq (.ops [⟨(some 51), none, .mov (.reg 0)⟩, ⟨(some 52), none, .mov (.reg 1)⟩, ⟨(some 53), none, .mov (.reg 2)⟩, ⟨(some 54), none, .call (.const (.func (.func 147) [] [])) [(.reg 51), (.reg 52), (.reg 53)]⟩])
  (.seq (.ops [⟨(some 55), none, .mov (.reg 2)⟩, ⟨(some 56), none, .bin .sub (.reg 55) (.const (.int .i64 1))⟩, ⟨(some 57), none, .mov (.reg 11)⟩, ⟨(some 58), none, .mov (.reg 1)⟩, ⟨(some 59), none, .bin .sub (.reg 57) (.reg 58)⟩, ⟨(some 60), none, .bin .sub (.reg 56) (.reg 59)⟩, ⟨(some 11), none, .mov (.reg 60)⟩])
  (.ops [⟨(some 12), none, .mov (.const (.int .i64 1))⟩])))
  .skip))
  (.seq (.seq (.ops [⟨(some 61), none, .mov (.reg 8)⟩, ⟨(some 62), none, .mov (.reg 61)⟩, ⟨(some 63), (some ((some 62), true)), .mov (.reg 9)⟩, ⟨(some 64), none, .pick (.reg 62) (.reg 63) (.const (.bool false))⟩, ⟨(some 65), none, .mov (.reg 64)⟩, ⟨(some 66), (some ((some 65), true)), .mov (.reg 12)⟩, ⟨(some 67), (some ((some 65), true)), .eqv false (.one .int) (.reg 66) (.const (.int .i64 1))⟩, ⟨(some 68), none, .pick (.reg 65) (.reg 67) (.const (.bool false))⟩])
  (.cond (.reg 68)
  (.seq (.ops [⟨(some 69), none, .mov (.reg 0)⟩, ⟨(some 70), none, .mov (.reg 1)⟩, ⟨(some 71), none, .mov (.reg 2)⟩, ⟨(some 72), none, .call (.const (.func (.func 148) [] [])) [(.reg 69), (.reg 70), (.reg 71)]⟩])
  (.cond (.reg 72)
  .ret
  .skip))
  .skip))
  (.seq (.seq (.draw [[], [(⟨(some 73), none, .mov (.reg 1)⟩, [])], [(⟨(some 74), none, .bin .gtr (.reg 73) (.const (.int .i64 0))⟩, [])], [(⟨(some 75), none, .mov (.reg 74)⟩, [])], [(⟨(some 76), (some ((some 75), true)), .mov (.reg 0)⟩, []), (⟨(some 77), (some ((some 75), true)), .mov (.reg 1)⟩, []), (⟨(some 78), (some ((some 75), true)), .bin .sub (.reg 77) (.const (.int .i64 1))⟩, [1]), (⟨(some 79), (some ((some 75), true)), .idxS 1 (.reg 76) (.reg 78)⟩, [0, 1, 2]), (⟨(some 80), (some ((some 75), true)), .load false 1 (.reg 79)⟩, [0, 1, 2, 3]), (⟨(some 81), (some ((some 75), true)), .mov (.reg 0)⟩, []), (⟨(some 82), (some ((some 75), true)), .mov (.reg 11)⟩, []), (⟨(some 83), (some ((some 75), true)), .idxS 1 (.reg 81) (.reg 82)⟩, [5, 6]), (⟨(some 84), (some ((some 75), true)), .load false 1 (.reg 83)⟩, [5, 6, 7])], [(⟨(some 85), (some ((some 75), true)), .call (.const (.func (.func 111) [] [])) [(.reg 80), (.reg 84)]⟩, [])], [(⟨(some 86), (some ((some 75), true)), .un .not (.reg 85)⟩, [])], [(⟨(some 87), none, .pick (.reg 75) (.reg 86) (.const (.bool false))⟩, [])]])
  (.cond (.reg 87)
  (.seq (.ops [⟨(some 88), none, .mov (.reg 0)⟩, ⟨(some 89), none, .mov (.reg 1)⟩, ⟨(some 90), none, .mov (.reg 2)⟩, ⟨(some 91), none, .mov (.reg 11)⟩, ⟨(some 92), none, .call (.const (.func (.func 149) [] [])) [(.reg 88), (.reg 89), (.reg 90), (.reg 91)]⟩, ⟨(some 13), none, .mov (.reg 92)⟩])
  (.seq (.ops [⟨(some 93), none, .mov (.reg 13)⟩, ⟨(some 1), none, .mov (.reg 93)⟩])
  (.exit 1)))
  .skip))
  (.seq (.ops [⟨(some 95), none, .mov (.reg 0)⟩, ⟨(some 96), none, .mov (.reg 1)⟩, ⟨(some 97), none, .mov (.reg 2)⟩, ⟨(some 98), none, .mov (.reg 11)⟩, ⟨(some 99), none, .call (.const (.func (.func 150) [] [])) [(.reg 95), (.reg 96), (.reg 97), (.reg 98)]⟩, ⟨(some 94), none, .mov (.reg 99)⟩, ⟨(some 100), none, .extract (.reg 94) 0⟩, ⟨(some 101), none, .extract (.reg 94) 1⟩, ⟨(some 14), none, .mov (.reg 100)⟩, ⟨(some 15), none, .mov (.reg 101)⟩])
  (.seq (.ops [⟨(some 102), none, .mov (.reg 15)⟩, ⟨(some 9), none, .mov (.reg 102)⟩])
  (.seq (.ops [⟨(some 103), none, .mov (.reg 14)⟩, ⟨(some 104), none, .mov (.reg 1)⟩, ⟨(some 105), none, .bin .sub (.reg 103) (.reg 104)⟩, ⟨(some 106), none, .mov (.reg 2)⟩, ⟨(some 107), none, .mov (.reg 14)⟩, ⟨(some 108), none, .bin .sub (.reg 106) (.reg 107)⟩, ⟨(some 16), none, .mov (.reg 105)⟩, ⟨(some 17), none, .mov (.reg 108)⟩])
  (.seq (.ops [⟨(some 109), none, .mov (.reg 10)⟩, ⟨(some 110), none, .bin .quo (.reg 109) (.const (.int .i64 8))⟩, ⟨(some 18), none, .mov (.reg 110)⟩])
  (.seq (.ops [⟨(some 111), none, .mov (.reg 16)⟩, ⟨(some 112), none, .mov (.reg 17)⟩, ⟨(some 113), none, .bin .lss (.reg 111) (.reg 112)⟩])
  (.cond (.reg 113)
  (.seq (.ops [⟨(some 114), none, .mov (.reg 16)⟩, ⟨(some 115), none, .mov (.reg 18)⟩, ⟨(some 116), none, .bin .geq (.reg 114) (.reg 115)⟩, ⟨(some 8), none, .mov (.reg 116)⟩])
  (.seq (.ops [⟨(some 117), none, .mov (.reg 0)⟩, ⟨(some 118), none, .mov (.reg 1)⟩, ⟨(some 119), none, .mov (.reg 14)⟩, ⟨(some 120), none, .mov (.reg 3)⟩, ⟨(some 121), none, .call (.const (.func (.func 107) [] [])) [(.reg 117), (.reg 118), (.reg 119), (.reg 120)]⟩])
  (.ops [⟨(some 122), none, .mov (.reg 14)⟩, ⟨(some 123), none, .bin .add (.reg 122) (.const (.int .i64 1))⟩, ⟨(some 1), none, .mov (.reg 123)⟩])))
  (.seq (.ops [⟨(some 124), none, .mov (.reg 17)⟩, ⟨(some 125), none, .mov (.reg 18)⟩, ⟨(some 126), none, .bin .geq (.reg 124) (.reg 125)⟩, ⟨(some 8), none, .mov (.reg 126)⟩])
  (.seq (.ops [⟨(some 127), none, .mov (.reg 0)⟩, ⟨(some 128), none, .mov (.reg 14)⟩, ⟨(some 129), none, .bin .add (.reg 128) (.const (.int .i64 1))⟩, ⟨(some 130), none, .mov (.reg 2)⟩, ⟨(some 131), none, .mov (.reg 3)⟩, ⟨(some 132), none, .call (.const (.func (.func 107) [] [])) [(.reg 127), (.reg 129), (.reg 130), (.reg 131)]⟩])
  (.ops [⟨(some 133), none, .mov (.reg 14)⟩, ⟨(some 2), none, .mov (.reg 133)⟩]))))))))))))))))))))))⟩
theorem c107 : EL.fns 107 = some F107 := fns_of Tryz.func107 (by kernel_rfl) (by kernel_rfl)

/-- slices.IndexFunc[[]int,int] -/
def F109 : IFun := ⟨19, [.tmp 4], (.seq (.ops [⟨(some 4), none, .mov (.const (.int .i64 0))⟩])
  (.seq (.seq (.ops [⟨(some 6), none, .mov (.reg 0)⟩, ⟨(some 7), none, .len .slice (.reg 6)⟩, ⟨(some 8), none, .mov (.const (.int .i64 0))⟩])
  (.block 0 (.loop
  (.seq (.ops [⟨(some 9), none, .bin .lss (.reg 8) (.reg 7)⟩])
  (.seq (.cond (.reg 9)
  .skip
  (.exit 0))
  (.seq (.block 1 (.seq (.ops [⟨(some 10), none, .mov (.reg 8)⟩, ⟨(some 5), none, .mov (.reg 10)⟩])
  (.seq (.ops [⟨(some 11), none, .mov (.reg 1)⟩, ⟨(some 12), none, .mov (.reg 0)⟩, ⟨(some 13), none, .mov (.reg 5)⟩, ⟨(some 14), none, .idxS 1 (.reg 12) (.reg 13)⟩, ⟨(some 15), none, .load false 1 (.reg 14)⟩, ⟨(some 16), none, .call (.reg 11) [(.reg 15)]⟩])
  (.cond (.reg 16)
  (.seq (.ops [⟨(some 17), none, .mov (.reg 5)⟩, ⟨(some 4), none, .mov (.reg 17)⟩])
  .ret)
  .skip))))
  (.ops [⟨(some 18), none, .bin .add (.reg 8) (.const (.int .i64 1))⟩, ⟨(some 8), none, .mov (.reg 18)⟩])))))))
  (.seq (.ops [⟨(some 4), none, .mov (.const (.int .i64 (-1)))⟩])
  .ret)))⟩
theorem c109 : EL.fns 109 = some F109 := fns_of Tryz.func109 (by kernel_rfl) (by kernel_rfl)

/-- hearth/hearthref01.SmallPat -/
def F113 : IFun := ⟨10, [.tmp 2], (.seq (.ops [⟨(some 1), none, .box (.reg 0)⟩, ⟨(some 2), none, .mov (.const (.bool false))⟩])
  (.seq (.ops [⟨(some 3), none, .load true 4 (.reg 1)⟩, ⟨(some 4), none, .call (.const (.func (.func 125) [] [])) [(.reg 3), (.const (.int .i64 16))]⟩, ⟨(some 5), none, .bin .geq (.reg 4) (.const (.int .i64 0))⟩, ⟨(some 6), none, .mov (.reg 5)⟩, ⟨(some 7), (some ((some 6), true)), .load true 4 (.reg 1)⟩, ⟨(some 8), (some ((some 6), true)), .call (.const (.func (.func 153) [] [])) [(.reg 7)]⟩, ⟨(some 9), none, .pick (.reg 6) (.reg 8) (.const (.bool false))⟩, ⟨(some 2), none, .mov (.reg 9)⟩])
  .ret))⟩
theorem c113 : EL.fns 113 = some F113 := fns_of Tryz.func113 (by kernel_rfl) (by kernel_rfl)

/-- hearth/hearthref10.in -/
def F123 : IFun := ⟨15, [.tmp 6], (.seq (.ops [⟨(some 6), none, .mov (.const (.bool false))⟩])
  (.seq (.ops [⟨(some 7), none, .mov (.reg 0)⟩, ⟨(some 8), none, .mov (.reg 1)⟩, ⟨(some 9), none, .bin .geq (.reg 7) (.reg 8)⟩, ⟨(some 10), none, .mov (.reg 9)⟩, ⟨(some 11), (some ((some 10), true)), .mov (.reg 0)⟩, ⟨(some 12), (some ((some 10), true)), .mov (.reg 2)⟩, ⟨(some 13), (some ((some 10), true)), .bin .leq (.reg 11) (.reg 12)⟩, ⟨(some 14), none, .pick (.reg 10) (.reg 13) (.const (.bool false))⟩, ⟨(some 6), none, .mov (.reg 14)⟩])
  .ret))⟩
theorem c123 : EL.fns 123 = some F123 := fns_of Tryz.func123 (by kernel_rfl) (by kernel_rfl)

/-- hearth/hearthref05.Cons -/
def F124 : IFun := ⟨5, [.tmp 2], (.seq (.ops [⟨(some 2), none, .mov (.const (.bool false))⟩])
  (.seq (.ops [⟨(some 3), none, .mov (.reg 0)⟩, ⟨(some 4), none, .call (.const (.func (.func 158) [] [])) [(.reg 3)]⟩, ⟨(some 2), none, .mov (.reg 4)⟩])
  .ret))⟩
theorem c124 : EL.fns 124 = some F124 := fns_of Tryz.func124 (by kernel_rfl) (by kernel_rfl)

/-- hearth/hearthref01.WeighPat -/
def F125 : IFun := ⟨29, [.tmp 4], (.seq (.ops [⟨(some 2), none, .box (.reg 0)⟩, ⟨(some 4), none, .mov (.const (.int .i64 0))⟩])
  (.seq (.seq (.ops [⟨(some 6), none, .mov (.reg 1)⟩, ⟨(some 7), none, .bin .lss (.reg 6) (.const (.int .i64 1))⟩])
  (.cond (.reg 7)
  (.seq (.ops [⟨(some 4), none, .mov (.const (.int .i64 (-1)))⟩])
  .ret)
  .skip))
  (.seq (.ops [⟨(some 8), none, .mov (.reg 1)⟩, ⟨(some 9), none, .bin .sub (.reg 8) (.const (.int .i64 1))⟩, ⟨(some 1), none, .mov (.reg 9)⟩])
  (.seq (.seq (.ops [⟨(some 5), none, .mov (.const (.int .i64 0))⟩])
  (.block 0 (.loop
  (.seq (.seq (.ops [⟨(some 10), none, .mov (.reg 5)⟩, ⟨(some 11), none, .addOff (.reg 2) 3⟩, ⟨(some 12), none, .load false 1 (.reg 11)⟩, ⟨(some 13), none, .len .slice (.reg 12)⟩, ⟨(some 14), none, .bin .lss (.reg 10) (.reg 13)⟩, ⟨(some 15), none, .mov (.reg 14)⟩, ⟨(some 16), (some ((some 15), true)), .mov (.reg 1)⟩, ⟨(some 17), (some ((some 15), true)), .bin .geq (.reg 16) (.const (.int .i64 0))⟩, ⟨(some 18), none, .pick (.reg 15) (.reg 17) (.const (.bool false))⟩])
  (.cond (.reg 18)
  .skip
  (.exit 0)))
  (.seq (.block 1 (.ops [⟨(some 21), none, .addOff (.reg 2) 3⟩, ⟨(some 22), none, .load false 1 (.reg 21)⟩, ⟨(some 23), none, .mov (.reg 5)⟩, ⟨(some 24), none, .idxS 4 (.reg 22) (.reg 23)⟩, ⟨(some 25), none, .load true 4 (.reg 24)⟩, ⟨(some 26), none, .mov (.reg 1)⟩, ⟨(some 27), none, .call (.const (.func (.func 125) [] [])) [(.reg 25), (.reg 26)]⟩, ⟨(some 1), none, .mov (.reg 27)⟩]))
  (.ops [⟨(some 19), none, .mov (.reg 5)⟩, ⟨(some 20), none, .bin .add (.reg 19) (.const (.int .i64 1))⟩, ⟨(some 5), none, .mov (.reg 20)⟩]))))))
  (.seq (.ops [⟨(some 28), none, .mov (.reg 1)⟩, ⟨(some 4), none, .mov (.reg 28)⟩])
  .ret)))))⟩
theorem c125 : EL.fns 125 = some F125 := fns_of Tryz.func125 (by kernel_rfl) (by kernel_rfl)

/-- hearth/hearthref05.Pat -/
def F126 : IFun := ⟨8, [.tmp 4], (.seq (.ops [⟨(some 2), none, .box (.reg 0)⟩, ⟨(some 4), none, .mov (.const (.bool false))⟩])
  (.seq (.ops [⟨(some 5), none, .load true 4 (.reg 2)⟩, ⟨(some 6), none, .mov (.reg 1)⟩, ⟨(some 7), none, .call (.const (.func (.func 159) [] [])) [(.reg 5), (.reg 6)]⟩, ⟨(some 4), none, .mov (.reg 7)⟩])
  .ret))⟩
theorem c126 : EL.fns 126 = some F126 := fns_of Tryz.func126 (by kernel_rfl) (by kernel_rfl)

/-- hearth/hearthref10.ins -/
def F127 : IFun := ⟨97, [.tmp 4], (.seq (.ops [⟨(some 2), none, .box (.reg 0)⟩, ⟨(some 3), none, .box (.reg 1)⟩, ⟨(some 4), none, .mov (.const (.bool false))⟩])
  (.seq (.ops [⟨(some 6), none, .addOff (.reg 2) 0⟩, ⟨(some 7), none, .load false 1 (.reg 6)⟩, ⟨(some 8), none, .len .slice (.reg 7)⟩, ⟨(some 5), none, .mov (.reg 8)⟩])
  (.seq (.seq (.ops [⟨(some 9), none, .addOff (.reg 3) 0⟩, ⟨(some 10), none, .load false 1 (.reg 9)⟩, ⟨(some 11), none, .eqv true (.one .int) (.reg 10) (.const (.int .i64 19))⟩, ⟨(some 12), none, .mov (.reg 11)⟩, ⟨(some 13), (some ((some 12), true)), .addOff (.reg 3) 2⟩, ⟨(some 14), (some ((some 12), true)), .load false 1 (.reg 13)⟩, ⟨(some 15), (some ((some 12), true)), .eqv true (.one .int) (.reg 14) (.const (.int .i64 0))⟩, ⟨(some 16), none, .pick (.reg 12) (.reg 15) (.const (.bool false))⟩])
  (.cond (.reg 16)
  (.seq (.ops [⟨(some 4), none, .mov (.const (.bool false))⟩])
  .ret)
  .skip))
  (.seq (.seq (.ops [⟨(some 17), none, .addOff (.reg 3) 0⟩, ⟨(some 18), none, .load false 1 (.reg 17)⟩])
  (.block 0 (.seq (.ops [⟨(some 20), none, .eqv false (.one .int) (.reg 18) (.const (.int .i64 1))⟩, ⟨(some 19), none, .mov (.reg 20)⟩])
  (.cond (.reg 19)
  (.seq (.ops [⟨(some 21), none, .addOff (.reg 3) 1⟩, ⟨(some 22), none, .load false 1 (.reg 21)⟩, ⟨(some 23), none, .call (.const (.func (.func 123) [] [])) [(.reg 22), (.const (.int .i64 (-1000000000))), (.const (.int .i64 1000000000))]⟩, ⟨(some 4), none, .mov (.reg 23)⟩])
  .ret)
  (.seq (.ops [⟨(some 25), none, .eqv false (.one .int) (.reg 18) (.const (.int .i64 2))⟩, ⟨(some 24), none, .mov (.reg 25)⟩])
  (.cond (.reg 24)
  (.seq (.ops [⟨(some 26), none, .addOff (.reg 3) 1⟩, ⟨(some 27), none, .load false 1 (.reg 26)⟩, ⟨(some 28), none, .call (.const (.func (.func 123) [] [])) [(.reg 27), (.const (.int .i64 0)), (.const (.int .i64 1))]⟩, ⟨(some 4), none, .mov (.reg 28)⟩])
  .ret)
  (.seq (.ops [⟨(some 30), none, .eqv false (.one .int) (.reg 18) (.const (.int .i64 4))⟩, ⟨(some 29), none, .mov (.reg 30)⟩])
  (.cond (.reg 29)
  (.seq (.ops [⟨(some 31), none, .addOff (.reg 3) 1⟩, ⟨(some 32), none, .load false 1 (.reg 31)⟩, ⟨(some 33), none, .call (.const (.func (.func 123) [] [])) [(.reg 32), (.const (.int .i64 0)), (.const (.int .i64 29))]⟩, ⟨(some 4), none, .mov (.reg 33)⟩])
  .ret)
  (.seq (.ops [⟨(some 35), none, .eqv false (.one .int) (.reg 18) (.const (.int .i64 5))⟩, ⟨(some 34), none, .mov (.reg 35)⟩])
  (.cond (.reg 34)
  (.seq (.ops [⟨(some 36), none, .addOff (.reg 3) 1⟩, ⟨(some 37), none, .load false 1 (.reg 36)⟩, ⟨(some 38), none, .addOff (.reg 2) 2⟩, ⟨(some 39), none, .load false 1 (.reg 38)⟩, ⟨(some 40), none, .len .slice (.reg 39)⟩, ⟨(some 41), none, .bin .sub (.reg 40) (.const (.int .i64 1))⟩, ⟨(some 42), none, .call (.const (.func (.func 123) [] [])) [(.reg 37), (.const (.int .i64 0)), (.reg 41)]⟩, ⟨(some 4), none, .mov (.reg 42)⟩])
  .ret)
  (.seq (.seq (.ops [⟨(some 44), none, .eqv false (.one .int) (.reg 18) (.const (.int .i64 6))⟩, ⟨(some 43), none, .mov (.reg 44)⟩])
  (.cond (.reg 43)
  .skip
  (.seq (.ops [⟨(some 45), none, .eqv false (.one .int) (.reg 18) (.const (.int .i64 11))⟩, ⟨(some 43), none, .mov (.reg 45)⟩])
  (.cond (.reg 43)
  .skip
  (.seq (.ops [⟨(some 46), none, .eqv false (.one .int) (.reg 18) (.const (.int .i64 12))⟩, ⟨(some 43), none, .mov (.reg 46)⟩])
  (.cond (.reg 43)
  .skip
  (.seq (.ops [⟨(some 47), none, .eqv false (.one .int) (.reg 18) (.const (.int .i64 31))⟩, ⟨(some 43), none, .mov (.reg 47)⟩])
  (.cond (.reg 43)
  .skip
  (.ops [⟨(some 48), none, .eqv false (.one .int) (.reg 18) (.const (.int .i64 32))⟩, ⟨(some 43), none, .mov (.reg 48)⟩])))))))))
  (.cond (.reg 43)
  (.seq (.ops [⟨(some 49), none, .addOff (.reg 3) 1⟩, ⟨(some 50), none, .load false 1 (.reg 49)⟩, ⟨(some 51), none, .mov (.reg 5)⟩, ⟨(some 52), none, .bin .sub (.reg 51) (.const (.int .i64 1))⟩, ⟨(some 53), none, .call (.const (.func (.func 123) [] [])) [(.reg 50), (.const (.int .i64 0)), (.reg 52)]⟩, ⟨(some 4), none, .mov (.reg 53)⟩])
  .ret)
  (.seq (.ops [⟨(some 55), none, .eqv false (.one .int) (.reg 18) (.const (.int .i64 10))⟩, ⟨(some 54), none, .mov (.reg 55)⟩])
  (.cond (.reg 54)
  (.seq (.ops [⟨(some 56), none, .addOff (.reg 3) 1⟩, ⟨(some 57), none, .load false 1 (.reg 56)⟩, ⟨(some 58), none, .call (.const (.func (.func 123) [] [])) [(.reg 57), (.const (.int .i64 1)), (.const (.int .i64 30))]⟩, ⟨(some 4), none, .mov (.reg 58)⟩])
  .ret)
  (.seq (.ops [⟨(some 60), none, .eqv false (.one .int) (.reg 18) (.const (.int .i64 18))⟩, ⟨(some 59), none, .mov (.reg 60)⟩])
  (.cond (.reg 59)
  (.seq (.ops [⟨(some 61), none, .addOff (.reg 3) 1⟩, ⟨(some 62), none, .load false 1 (.reg 61)⟩, ⟨(some 63), none, .addOff (.reg 2) 4⟩, ⟨(some 64), none, .load false 1 (.reg 63)⟩, ⟨(some 65), none, .len .slice (.reg 64)⟩, ⟨(some 66), none, .bin .sub (.reg 65) (.const (.int .i64 1))⟩, ⟨(some 67), none, .call (.const (.func (.func 123) [] [])) [(.reg 62), (.const (.int .i64 0)), (.reg 66)]⟩, ⟨(some 4), none, .mov (.reg 67)⟩])
  .ret)
  (.seq (.ops [⟨(some 69), none, .eqv false (.one .int) (.reg 18) (.const (.int .i64 19))⟩, ⟨(some 68), none, .mov (.reg 69)⟩])
  (.cond (.reg 68)
  (.seq (.ops [⟨(some 70), none, .addOff (.reg 3) 1⟩, ⟨(some 71), none, .load false 1 (.reg 70)⟩, ⟨(some 72), none, .addOff (.reg 2) 1⟩, ⟨(some 73), none, .load false 1 (.reg 72)⟩, ⟨(some 74), none, .len .slice (.reg 73)⟩, ⟨(some 75), none, .bin .sub (.reg 74) (.const (.int .i64 1))⟩, ⟨(some 76), none, .call (.const (.func (.func 123) [] [])) [(.reg 71), (.const (.int .i64 0)), (.reg 75)]⟩, ⟨(some 77), none, .mov (.reg 76)⟩, ⟨(some 78), (some ((some 77), true)), .addOff (.reg 3) 2⟩, ⟨(some 79), (some ((some 77), true)), .load false 1 (.reg 78)⟩, ⟨(some 80), (some ((some 77), true)), .mov (.reg 5)⟩, ⟨(some 81), (some ((some 77), true)), .bin .sub (.reg 80) (.const (.int .i64 1))⟩, ⟨(some 82), (some ((some 77), true)), .call (.const (.func (.func 123) [] [])) [(.reg 79), (.const (.int .i64 0)), (.reg 81)]⟩, ⟨(some 83), none, .pick (.reg 77) (.reg 82) (.const (.bool false))⟩, ⟨(some 4), none, .mov (.reg 83)⟩])
  .ret)
  (.seq (.ops [⟨(some 85), none, .eqv false (.one .int) (.reg 18) (.const (.int .i64 29))⟩, ⟨(some 84), none, .mov (.reg 85)⟩])
  (.cond (.reg 84)
  (.seq (.ops [⟨(some 86), none, .addOff (.reg 3) 1⟩, ⟨(some 87), none, .load false 1 (.reg 86)⟩, ⟨(some 88), none, .call (.const (.func (.func 123) [] [])) [(.reg 87), (.const (.int .i64 0)), (.const (.int .i64 3))]⟩, ⟨(some 4), none, .mov (.reg 88)⟩])
  .ret)
  .skip))))))))))))))))))))
  (.seq (.ops [⟨(some 89), none, .addOff (.reg 3) 0⟩, ⟨(some 90), none, .load false 1 (.reg 89)⟩, ⟨(some 91), none, .call (.const (.func (.func 123) [] [])) [(.reg 90), (.const (.int .i64 1)), (.const (.int .i64 34))]⟩, ⟨(some 92), none, .mov (.reg 91)⟩, ⟨(some 93), (some ((some 92), true)), .addOff (.reg 3) 1⟩, ⟨(some 94), (some ((some 92), true)), .load false 1 (.reg 93)⟩, ⟨(some 95), (some ((some 92), true)), .eqv false (.one .int) (.reg 94) (.const (.int .i64 0))⟩, ⟨(some 96), none, .pick (.reg 92) (.reg 95) (.const (.bool false))⟩, ⟨(some 4), none, .mov (.reg 96)⟩])
  .ret)))))⟩
theorem c127 : EL.fns 127 = some F127 := fns_of Tryz.func127 (by kernel_rfl) (by kernel_rfl)

/-- hearth/hearthref10.depth -/
def F128 : IFun := ⟨8, [.cell 4 true 3], (.seq (.ops [⟨(some 4), none, .alloc (.agg [(.bool false), (.int .i64 0), (.int .i64 0)])⟩])
  (.seq (.ops [⟨(some 5), none, .mov (.reg 0)⟩, ⟨(some 6), none, .mov (.reg 1)⟩, ⟨(some 7), none, .build [(.bool false), (.int .i64 0), (.int .i64 0)] [(0, 1, (.const (.bool true))), (1, 1, (.reg 5)), (2, 1, (.reg 6))]⟩, ⟨none, none, .store 3 (.reg 4) (.reg 7)⟩])
  .ret))⟩
theorem c128 : EL.fns 128 = some F128 := fns_of Tryz.func128 (by kernel_rfl) (by kernel_rfl)

/-- hearth/hearthref10.follow -/
def F129 : IFun := ⟨180, [.tmp 6, .tmp 7], (.seq (.ops [⟨(some 3), none, .box (.reg 0)⟩, ⟨(some 5), none, .box (.reg 2)⟩, ⟨(some 6), none, .mov (.const (.frz [] true))⟩, ⟨(some 7), none, .mov (.const (.bool false))⟩])
  (.seq (.ops [⟨(some 11), none, .addOff (.reg 3) 0⟩, ⟨(some 12), none, .load false 1 (.reg 11)⟩, ⟨(some 13), none, .mov (.reg 1)⟩, ⟨(some 14), none, .idxS 3 (.reg 12) (.reg 13)⟩, ⟨(some 15), none, .load true 3 (.reg 14)⟩, ⟨(some 8), none, .alloc (.agg [(.int .i64 0), (.int .i64 0), (.int .i64 0)])⟩, ⟨none, none, .store 3 (.reg 8) (.reg 15)⟩])
  (.seq (.ops [⟨(some 16), none, .load true 5 (.reg 3)⟩, ⟨(some 17), none, .load true 3 (.reg 8)⟩, ⟨(some 18), none, .call (.const (.func (.func 160) [] [])) [(.reg 16), (.reg 17)]⟩, ⟨(some 9), none, .mov (.reg 18)⟩])
  (.seq (.seq (.ops [⟨(some 19), none, .mov (.reg 9)⟩, ⟨(some 20), none, .bin .lss (.reg 19) (.const (.int .i64 0))⟩])
  (.cond (.reg 20)
  (.seq (.draw [[], [(⟨(some 21), none, .addOff (.reg 5) 1⟩, []), (⟨(some 22), none, .load false 1 (.reg 21)⟩, [0]), (⟨(some 23), none, .mov (.reg 9)⟩, []), (⟨(some 24), none, .bin .sub (.const (.int .i64 (-1))) (.reg 23)⟩, [2]), (⟨(some 25), none, .eqv false (.one .int) (.reg 22) (.reg 24)⟩, [0, 1, 2, 3]), (⟨(some 6), none, .mov (.const (.frz [] true))⟩, [])], [(⟨(some 7), none, .mov (.reg 25)⟩, [])]])
  .ret)
  .skip))
  (.seq (.seq (.ops [⟨(some 26), none, .addOff (.reg 5) 1⟩, ⟨(some 27), none, .load false 1 (.reg 26)⟩, ⟨(some 28), none, .mov (.reg 9)⟩, ⟨(some 29), none, .bin .lss (.reg 27) (.reg 28)⟩, ⟨(some 30), none, .mov (.reg 29)⟩, ⟨(some 31), (some ((some 30), false)), .addOff (.reg 8) 0⟩, ⟨(some 32), (some ((some 30), false)), .load false 1 (.reg 31)⟩, ⟨(some 33), (some ((some 30), false)), .eqv false (.one .int) (.reg 32) (.const (.int .i64 4))⟩, ⟨(some 34), (some ((some 30), false)), .mov (.reg 33)⟩, ⟨(some 35), (some ((some 34), true)), .addOff (.reg 8) 1⟩, ⟨(some 36), (some ((some 34), true)), .load false 1 (.reg 35)⟩, ⟨(some 37), (some ((some 34), true)), .addOff (.reg 5) 2⟩, ⟨(some 38), (some ((some 34), true)), .load false 1 (.reg 37)⟩, ⟨(some 39), (some ((some 34), true)), .bin .geq (.reg 36) (.reg 38)⟩, ⟨(some 40), (some ((some 30), false)), .pick (.reg 34) (.reg 39) (.const (.bool false))⟩, ⟨(some 41), none, .pick (.reg 30) (.const (.bool true)) (.reg 40)⟩, ⟨(some 42), none, .mov (.reg 41)⟩, ⟨(some 43), (some ((some 42), false)), .addOff (.reg 8) 0⟩, ⟨(some 44), (some ((some 42), false)), .load false 1 (.reg 43)⟩, ⟨(some 45), (some ((some 42), false)), .eqv false (.one .int) (.reg 44) (.const (.int .i64 10))⟩, ⟨(some 46), (some ((some 42), false)), .mov (.reg 45)⟩, ⟨(some 47), (some ((some 46), true)), .addOff (.reg 8) 1⟩, ⟨(some 48), (some ((some 46), true)), .load false 1 (.reg 47)⟩, ⟨(some 49), (some ((some 46), true)), .addOff (.reg 5) 2⟩, ⟨(some 50), (some ((some 46), true)), .load false 1 (.reg 49)⟩, ⟨(some 51), (some ((some 46), true)), .bin .gtr (.reg 48) (.reg 50)⟩, ⟨(some 52), (some ((some 42), false)), .pick (.reg 46) (.reg 51) (.const (.bool false))⟩, ⟨(some 53), none, .pick (.reg 42) (.const (.bool true)) (.reg 52)⟩])
  (.cond (.reg 53)
  (.seq (.ops [⟨(some 6), none, .mov (.const (.frz [] true))⟩, ⟨(some 7), none, .mov (.const (.bool false))⟩])
  .ret)
  .skip))
  (.seq (.seq (.ops [⟨(some 54), none, .addOff (.reg 8) 0⟩, ⟨(some 55), none, .load false 1 (.reg 54)⟩, ⟨(some 56), none, .call (.const (.func (.func 137) [] [])) [(.reg 55)]⟩])
  (.cond (.reg 56)
  (.seq (.ops [⟨(some 6), none, .mov (.const (.frz [] true))⟩, ⟨(some 7), none, .mov (.const (.bool true))⟩])
  .ret)
  .skip))
  (.seq (.ops [⟨(some 57), none, .addOff (.reg 5) 1⟩, ⟨(some 58), none, .load false 1 (.reg 57)⟩, ⟨(some 59), none, .mov (.reg 9)⟩, ⟨(some 60), none, .bin .sub (.reg 58) (.reg 59)⟩, ⟨(some 10), none, .mov (.reg 60)⟩])
  (.seq (.seq (.ops [⟨(some 61), none, .addOff (.reg 8) 0⟩, ⟨(some 62), none, .load false 1 (.reg 61)⟩, ⟨(some 63), none, .call (.const (.func (.func 161) [] [])) [(.reg 62)]⟩])
  (.cond (.reg 63)
  (.ops [⟨(some 64), none, .mov (.reg 10)⟩, ⟨(some 65), none, .bin .add (.reg 64) (.const (.int .i64 1))⟩, ⟨(some 10), none, .mov (.reg 65)⟩])
  .skip))
  (.seq (.seq (.ops [⟨(some 66), none, .addOff (.reg 8) 0⟩, ⟨(some 67), none, .load false 1 (.reg 66)⟩])
  (.block 0 (.seq (.ops [⟨(some 69), none, .eqv false (.one .int) (.reg 67) (.const (.int .i64 9))⟩, ⟨(some 68), none, .mov (.reg 69)⟩])
  (.cond (.reg 68)
  (.seq (.ops [⟨(some 70), none, .mov (.reg 1)⟩, ⟨(some 71), none, .bin .add (.reg 70) (.const (.int .i64 1))⟩, ⟨(some 72), none, .mov (.reg 10)⟩, ⟨(some 73), none, .addOff (.reg 5) 2⟩, ⟨(some 74), none, .load false 1 (.reg 73)⟩, ⟨(some 75), none, .bin .add (.reg 74) (.const (.int .i64 1))⟩, ⟨(some 76), none, .call (.const (.func (.func 128) [] [])) [(.reg 72), (.reg 75)]⟩, ⟨(some 77), none, .build [(.int .i64 0), (.bool false), (.int .i64 0), (.int .i64 0)] [(0, 1, (.reg 71)), (1, 3, (.reg 76))]⟩, ⟨(some 78), none, .buildSlice 4 (.agg [(.int .i64 0), (.bool false), (.int .i64 0), (.int .i64 0)]) 1 [(0, (.reg 77))]⟩, ⟨(some 6), none, .mov (.reg 78)⟩, ⟨(some 7), none, .mov (.const (.bool true))⟩])
  .ret)
  (.seq (.ops [⟨(some 80), none, .eqv false (.one .int) (.reg 67) (.const (.int .i64 10))⟩, ⟨(some 79), none, .mov (.reg 80)⟩])
  (.cond (.reg 79)
  (.seq (.ops [⟨(some 81), none, .mov (.reg 1)⟩, ⟨(some 82), none, .bin .add (.reg 81) (.const (.int .i64 1))⟩, ⟨(some 83), none, .mov (.reg 10)⟩, ⟨(some 84), none, .addOff (.reg 5) 2⟩, ⟨(some 85), none, .load false 1 (.reg 84)⟩, ⟨(some 86), none, .addOff (.reg 8) 1⟩, ⟨(some 87), none, .load false 1 (.reg 86)⟩, ⟨(some 88), none, .bin .sub (.reg 85) (.reg 87)⟩, ⟨(some 89), none, .call (.const (.func (.func 128) [] [])) [(.reg 83), (.reg 88)]⟩, ⟨(some 90), none, .build [(.int .i64 0), (.bool false), (.int .i64 0), (.int .i64 0)] [(0, 1, (.reg 82)), (1, 3, (.reg 89))]⟩, ⟨(some 91), none, .buildSlice 4 (.agg [(.int .i64 0), (.bool false), (.int .i64 0), (.int .i64 0)]) 1 [(0, (.reg 90))]⟩, ⟨(some 6), none, .mov (.reg 91)⟩, ⟨(some 7), none, .mov (.const (.bool true))⟩])
  .ret)
  (.seq (.ops [⟨(some 93), none, .eqv false (.one .int) (.reg 67) (.const (.int .i64 11))⟩, ⟨(some 92), none, .mov (.reg 93)⟩])
  (.cond (.reg 92)
  (.seq (.ops [⟨(some 94), none, .addOff (.reg 8) 1⟩, ⟨(some 95), none, .load false 1 (.reg 94)⟩, ⟨(some 96), none, .load true 3 (.reg 5)⟩, ⟨(some 97), none, .build [(.int .i64 0), (.bool false), (.int .i64 0), (.int .i64 0)] [(0, 1, (.reg 95)), (1, 3, (.reg 96))]⟩, ⟨(some 98), none, .buildSlice 4 (.agg [(.int .i64 0), (.bool false), (.int .i64 0), (.int .i64 0)]) 1 [(0, (.reg 97))]⟩, ⟨(some 6), none, .mov (.reg 98)⟩, ⟨(some 7), none, .mov (.const (.bool true))⟩])
  .ret)
  (.seq (.ops [⟨(some 100), none, .eqv false (.one .int) (.reg 67) (.const (.int .i64 12))⟩, ⟨(some 99), none, .mov (.reg 100)⟩])
  (.cond (.reg 99)
  (.seq (.draw [[], [(⟨(some 101), none, .mov (.reg 1)⟩, []), (⟨(some 102), none, .bin .add (.reg 101) (.const (.int .i64 1))⟩, [0]), (⟨(some 103), none, .mov (.reg 10)⟩, []), (⟨(some 104), none, .addOff (.reg 5) 2⟩, []), (⟨(some 105), none, .load false 1 (.reg 104)⟩, [3]), (⟨(some 106), none, .call (.const (.func (.func 128) [] [])) [(.reg 103), (.reg 105)]⟩, [2, 3, 4]), (⟨(some 107), none, .build [(.int .i64 0), (.bool false), (.int .i64 0), (.int .i64 0)] [(0, 1, (.reg 102)), (1, 3, (.reg 106))]⟩, [0, 1, 2, 3, 4, 5]), (⟨(some 108), none, .addOff (.reg 8) 1⟩, []), (⟨(some 109), none, .load false 1 (.reg 108)⟩, [7]), (⟨(some 110), none, .mov (.reg 10)⟩, []), (⟨(some 111), none, .addOff (.reg 5) 2⟩, []), (⟨(some 112), none, .load false 1 (.reg 111)⟩, [10]), (⟨(some 113), none, .call (.const (.func (.func 128) [] [])) [(.reg 110), (.reg 112)]⟩, [2, 3, 4, 5, 9, 10, 11]), (⟨(some 114), none, .build [(.int .i64 0), (.bool false), (.int .i64 0), (.int .i64 0)] [(0, 1, (.reg 109)), (1, 3, (.reg 113))]⟩, [2, 3, 4, 5, 7, 8, 9, 10, 11, 12])], [(⟨(some 115), none, .buildSlice 4 (.agg [(.int .i64 0), (.bool false), (.int .i64 0), (.int .i64 0)]) 2 [(0, (.reg 107)), (1, (.reg 114))]⟩, [])], [(⟨(some 6), none, .mov (.reg 115)⟩, [])], [(⟨(some 7), none, .mov (.const (.bool true))⟩, [])]])
  .ret)
  (.seq (.ops [⟨(some 117), none, .eqv false (.one .int) (.reg 67) (.const (.int .i64 19))⟩, ⟨(some 116), none, .mov (.reg 117)⟩])
  (.cond (.reg 116)
  (.seq (.draw [[], [(⟨(some 118), none, .mov (.reg 1)⟩, []), (⟨(some 119), none, .bin .add (.reg 118) (.const (.int .i64 1))⟩, [0]), (⟨(some 120), none, .mov (.reg 10)⟩, []), (⟨(some 121), none, .addOff (.reg 5) 2⟩, []), (⟨(some 122), none, .load false 1 (.reg 121)⟩, [3]), (⟨(some 123), none, .addOff (.reg 3) 1⟩, []), (⟨(some 124), none, .load false 1 (.reg 123)⟩, [5]), (⟨(some 125), none, .addOff (.reg 8) 1⟩, []), (⟨(some 126), none, .load false 1 (.reg 125)⟩, [7]), (⟨(some 127), none, .idxS 4 (.reg 124) (.reg 126)⟩, [5, 6, 7, 8]), (⟨(some 128), none, .load true 4 (.reg 127)⟩, [5, 6, 7, 8, 9]), (⟨(some 129), none, .call (.const (.func (.func 136) [] [])) [(.reg 128)]⟩, [5, 6, 7, 8, 9, 10]), (⟨(some 130), none, .bin .add (.reg 122) (.reg 129)⟩, [3, 4, 5, 6, 7, 8, 9, 10, 11]), (⟨(some 131), none, .call (.const (.func (.func 128) [] [])) [(.reg 120), (.reg 130)]⟩, [2, 3, 4, 5, 6, 7, 8, 9, 10, 11, 12]), (⟨(some 132), none, .build [(.int .i64 0), (.bool false), (.int .i64 0), (.int .i64 0)] [(0, 1, (.reg 119)), (1, 3, (.reg 131))]⟩, [0, 1, 2, 3, 4, 5, 6, 7, 8, 9, 10, 11, 12, 13]), (⟨(some 133), none, .addOff (.reg 8) 2⟩, []), (⟨(some 134), none, .load false 1 (.reg 133)⟩, [15]), (⟨(some 135), none, .load true 3 (.reg 5)⟩, []), (⟨(some 136), none, .build [(.int .i64 0), (.bool false), (.int .i64 0), (.int .i64 0)] [(0, 1, (.reg 134)), (1, 3, (.reg 135))]⟩, [15, 16, 17])], [(⟨(some 137), none, .buildSlice 4 (.agg [(.int .i64 0), (.bool false), (.int .i64 0), (.int .i64 0)]) 2 [(0, (.reg 132)), (1, (.reg 136))]⟩, [])], [(⟨(some 6), none, .mov (.reg 137)⟩, [])], [(⟨(some 7), none, .mov (.const (.bool true))⟩, [])]])
  .ret)
  (.seq (.seq (.ops [⟨(some 139), none, .eqv false (.one .int) (.reg 67) (.const (.int .i64 6))⟩, ⟨(some 138), none, .mov (.reg 139)⟩])
  (.cond (.reg 138)
  .skip
  (.ops [⟨(some 140), none, .eqv false (.one .int) (.reg 67) (.const (.int .i64 32))⟩, ⟨(some 138), none, .mov (.reg 140)⟩])))
  (.cond (.reg 138)
  (.seq (.draw [[], [(⟨(some 141), none, .mov (.reg 1)⟩, []), (⟨(some 142), none, .bin .add (.reg 141) (.const (.int .i64 1))⟩, [0]), (⟨(some 143), none, .mov (.reg 10)⟩, []), (⟨(some 144), none, .addOff (.reg 5) 2⟩, []), (⟨(some 145), none, .load false 1 (.reg 144)⟩, [3]), (⟨(some 146), none, .call (.const (.func (.func 128) [] [])) [(.reg 143), (.reg 145)]⟩, [2, 3, 4]), (⟨(some 147), none, .build [(.int .i64 0), (.bool false), (.int .i64 0), (.int .i64 0)] [(0, 1, (.reg 142)), (1, 3, (.reg 146))]⟩, [0, 1, 2, 3, 4, 5]), (⟨(some 148), none, .addOff (.reg 8) 1⟩, []), (⟨(some 149), none, .load false 1 (.reg 148)⟩, [7]), (⟨(some 150), none, .addOff (.reg 5) 2⟩, []), (⟨(some 151), none, .load false 1 (.reg 150)⟩, [9]), (⟨(some 152), none, .bin .add (.reg 151) (.const (.int .i64 1))⟩, [9, 10]), (⟨(some 153), none, .call (.const (.func (.func 128) [] [])) [(.const (.int .i64 0)), (.reg 152)]⟩, [2, 3, 4, 5, 9, 10, 11]), (⟨(some 154), none, .build [(.int .i64 0), (.bool false), (.int .i64 0), (.int .i64 0)] [(0, 1, (.reg 149)), (1, 3, (.reg 153))]⟩, [2, 3, 4, 5, 7, 8, 9, 10, 11, 12])], [(⟨(some 155), none, .buildSlice 4 (.agg [(.int .i64 0), (.bool false), (.int .i64 0), (.int .i64 0)]) 2 [(0, (.reg 147)), (1, (.reg 154))]⟩, [])], [(⟨(some 6), none, .mov (.reg 155)⟩, [])], [(⟨(some 7), none, .mov (.const (.bool true))⟩, [])]])
  .ret)
  (.seq (.ops [⟨(some 157), none, .eqv false (.one .int) (.reg 67) (.const (.int .i64 31))⟩, ⟨(some 156), none, .mov (.reg 157)⟩])
  (.cond (.reg 156)
  (.seq (.draw [[], [(⟨(some 158), none, .mov (.reg 1)⟩, []), (⟨(some 159), none, .bin .add (.reg 158) (.const (.int .i64 1))⟩, [0]), (⟨(some 160), none, .mov (.reg 10)⟩, []), (⟨(some 161), none, .addOff (.reg 5) 2⟩, []), (⟨(some 162), none, .load false 1 (.reg 161)⟩, [3]), (⟨(some 163), none, .call (.const (.func (.func 128) [] [])) [(.reg 160), (.reg 162)]⟩, [2, 3, 4]), (⟨(some 164), none, .build [(.int .i64 0), (.bool false), (.int .i64 0), (.int .i64 0)] [(0, 1, (.reg 159)), (1, 3, (.reg 163))]⟩, [0, 1, 2, 3, 4, 5]), (⟨(some 165), none, .addOff (.reg 8) 1⟩, []), (⟨(some 166), none, .load false 1 (.reg 165)⟩, [7]), (⟨(some 167), none, .addOff (.reg 5) 2⟩, []), (⟨(some 168), none, .load false 1 (.reg 167)⟩, [9]), (⟨(some 169), none, .call (.const (.func (.func 128) [] [])) [(.const (.int .i64 0)), (.reg 168)]⟩, [2, 3, 4, 5, 9, 10]), (⟨(some 170), none, .build [(.int .i64 0), (.bool false), (.int .i64 0), (.int .i64 0)] [(0, 1, (.reg 166)), (1, 3, (.reg 169))]⟩, [2, 3, 4, 5, 7, 8, 9, 10, 11])], [(⟨(some 171), none, .buildSlice 4 (.agg [(.int .i64 0), (.bool false), (.int .i64 0), (.int .i64 0)]) 2 [(0, (.reg 164)), (1, (.reg 170))]⟩, [])], [(⟨(some 6), none, .mov (.reg 171)⟩, [])], [(⟨(some 7), none, .mov (.const (.bool true))⟩, [])]])
  .ret)
  .skip))))))))))))))))
  (.seq (.ops [⟨(some 172), none, .mov (.reg 1)⟩, ⟨(some 173), none, .bin .add (.reg 172) (.const (.int .i64 1))⟩, ⟨(some 174), none, .mov (.reg 10)⟩, ⟨(some 175), none, .addOff (.reg 5) 2⟩, ⟨(some 176), none, .load false 1 (.reg 175)⟩, ⟨(some 177), none, .call (.const (.func (.func 128) [] [])) [(.reg 174), (.reg 176)]⟩, ⟨(some 178), none, .build [(.int .i64 0), (.bool false), (.int .i64 0), (.int .i64 0)] [(0, 1, (.reg 173)), (1, 3, (.reg 177))]⟩, ⟨(some 179), none, .buildSlice 4 (.agg [(.int .i64 0), (.bool false), (.int .i64 0), (.int .i64 0)]) 1 [(0, (.reg 178))]⟩, ⟨(some 6), none, .mov (.reg 179)⟩, ⟨(some 7), none, .mov (.const (.bool true))⟩])
  .ret))))))))))⟩
theorem c129 : EL.fns 129 = some F129 := fns_of Tryz.func129 (by kernel_rfl) (by kernel_rfl)

/-- hearth/hearthref12.started -/
def F130 : IFun := ⟨13, [.tmp 2], (.seq (.ops [⟨(some 2), none, .mov (.const (.bool false))⟩])
  (.seq (.ops [⟨(some 3), none, .mov (.reg 0)⟩, ⟨(some 4), none, .eqv false (.one .int) (.reg 3) (.const (.int .i64 6))⟩, ⟨(some 5), none, .mov (.reg 4)⟩, ⟨(some 6), (some ((some 5), false)), .mov (.reg 0)⟩, ⟨(some 7), (some ((some 5), false)), .eqv false (.one .int) (.reg 6) (.const (.int .i64 31))⟩, ⟨(some 8), none, .pick (.reg 5) (.const (.bool true)) (.reg 7)⟩, ⟨(some 9), none, .mov (.reg 8)⟩, ⟨(some 10), (some ((some 9), false)), .mov (.reg 0)⟩, ⟨(some 11), (some ((some 9), false)), .eqv false (.one .int) (.reg 10) (.const (.int .i64 32))⟩, ⟨(some 12), none, .pick (.reg 9) (.const (.bool true)) (.reg 11)⟩, ⟨(some 2), none, .mov (.reg 12)⟩])
  .ret))⟩
theorem c130 : EL.fns 130 = some F130 := fns_of Tryz.func130 (by kernel_rfl) (by kernel_rfl)

/-- hearth/hearthref05.same -/
def F131 : IFun := ⟨26, [.tmp 4], (.seq (.ops [⟨(some 4), none, .mov (.const (.bool false))⟩])
  (.seq (.seq (.ops [⟨(some 6), none, .mov (.reg 0)⟩, ⟨(some 7), none, .len .slice (.reg 6)⟩, ⟨(some 8), none, .mov (.reg 1)⟩, ⟨(some 9), none, .len .slice (.reg 8)⟩, ⟨(some 10), none, .eqv true (.one .int) (.reg 7) (.reg 9)⟩])
  (.cond (.reg 10)
  (.seq (.ops [⟨(some 4), none, .mov (.const (.bool false))⟩])
  .ret)
  .skip))
  (.seq (.seq (.ops [⟨(some 5), none, .mov (.const (.int .i64 0))⟩])
  (.block 0 (.loop
  (.seq (.seq (.ops [⟨(some 11), none, .mov (.reg 5)⟩, ⟨(some 12), none, .mov (.reg 0)⟩, ⟨(some 13), none, .len .slice (.reg 12)⟩, ⟨(some 14), none, .bin .lss (.reg 11) (.reg 13)⟩])
  (.cond (.reg 14)
  .skip
  (.exit 0)))
  (.seq (.block 1 (.seq (.draw [[], [(⟨(some 17), none, .mov (.reg 0)⟩, []), (⟨(some 18), none, .mov (.reg 5)⟩, []), (⟨(some 19), none, .idxS 1 (.reg 17) (.reg 18)⟩, [0, 1]), (⟨(some 20), none, .load false 1 (.reg 19)⟩, [0, 1, 2]), (⟨(some 21), none, .mov (.reg 1)⟩, []), (⟨(some 22), none, .mov (.reg 5)⟩, []), (⟨(some 23), none, .idxS 1 (.reg 21) (.reg 22)⟩, [4, 5]), (⟨(some 24), none, .load false 1 (.reg 23)⟩, [4, 5, 6])], [(⟨(some 25), none, .eqv true (.one .int) (.reg 20) (.reg 24)⟩, [])]])
  (.cond (.reg 25)
  (.seq (.ops [⟨(some 4), none, .mov (.const (.bool false))⟩])
  .ret)
  .skip)))
  (.ops [⟨(some 15), none, .mov (.reg 5)⟩, ⟨(some 16), none, .bin .add (.reg 15) (.const (.int .i64 1))⟩, ⟨(some 5), none, .mov (.reg 16)⟩]))))))
  (.seq (.ops [⟨(some 4), none, .mov (.const (.bool true))⟩])
  .ret))))⟩
theorem c131 : EL.fns 131 = some F131 := fns_of Tryz.func131 (by kernel_rfl) (by kernel_rfl)

/-- hearth/hearthref05.Names -/
def F136 : IFun := ⟨24, [.tmp 2], (.seq (.ops [⟨(some 1), none, .box (.reg 0)⟩, ⟨(some 2), none, .mov (.const (.int .i64 0))⟩])
  (.seq (.ops [⟨(some 3), none, .mov (.const (.int .i64 0))⟩])
  (.seq (.seq (.ops [⟨(some 5), none, .addOff (.reg 1) 0⟩, ⟨(some 6), none, .load false 1 (.reg 5)⟩, ⟨(some 7), none, .eqv false (.one .int) (.reg 6) (.const (.int .i64 2))⟩])
  (.cond (.reg 7)
  (.ops [⟨(some 3), none, .mov (.const (.int .i64 1))⟩])
  .skip))
  (.seq (.seq (.ops [⟨(some 4), none, .mov (.const (.int .i64 0))⟩])
  (.block 0 (.loop
  (.seq (.seq (.ops [⟨(some 8), none, .mov (.reg 4)⟩, ⟨(some 9), none, .addOff (.reg 1) 3⟩, ⟨(some 10), none, .load false 1 (.reg 9)⟩, ⟨(some 11), none, .len .slice (.reg 10)⟩, ⟨(some 12), none, .bin .lss (.reg 8) (.reg 11)⟩])
  (.cond (.reg 12)
  .skip
  (.exit 0)))
  (.seq (.block 1 (.ops [⟨(some 15), none, .mov (.reg 3)⟩, ⟨(some 16), none, .addOff (.reg 1) 3⟩, ⟨(some 17), none, .load false 1 (.reg 16)⟩, ⟨(some 18), none, .mov (.reg 4)⟩, ⟨(some 19), none, .idxS 4 (.reg 17) (.reg 18)⟩, ⟨(some 20), none, .load true 4 (.reg 19)⟩, ⟨(some 21), none, .call (.const (.func (.func 136) [] [])) [(.reg 20)]⟩, ⟨(some 22), none, .bin .add (.reg 15) (.reg 21)⟩, ⟨(some 3), none, .mov (.reg 22)⟩]))
  (.ops [⟨(some 13), none, .mov (.reg 4)⟩, ⟨(some 14), none, .bin .add (.reg 13) (.const (.int .i64 1))⟩, ⟨(some 4), none, .mov (.reg 14)⟩]))))))
  (.seq (.ops [⟨(some 23), none, .mov (.reg 3)⟩, ⟨(some 2), none, .mov (.reg 23)⟩])
  .ret)))))⟩
theorem c136 : EL.fns 136 = some F136 := fns_of Tryz.func136 (by kernel_rfl) (by kernel_rfl)

/-- hearth/hearthref10.Ends -/
def F137 : IFun := ⟨13, [.tmp 2], (.seq (.ops [⟨(some 2), none, .mov (.const (.bool false))⟩])
  (.seq (.ops [⟨(some 3), none, .mov (.reg 0)⟩, ⟨(some 4), none, .eqv false (.one .int) (.reg 3) (.const (.int .i64 8))⟩, ⟨(some 5), none, .mov (.reg 4)⟩, ⟨(some 6), (some ((some 5), false)), .mov (.reg 0)⟩, ⟨(some 7), (some ((some 5), false)), .eqv false (.one .int) (.reg 6) (.const (.int .i64 20))⟩, ⟨(some 8), none, .pick (.reg 5) (.const (.bool true)) (.reg 7)⟩, ⟨(some 9), none, .mov (.reg 8)⟩, ⟨(some 10), (some ((some 9), false)), .mov (.reg 0)⟩, ⟨(some 11), (some ((some 9), false)), .eqv false (.one .int) (.reg 10) (.const (.int .i64 34))⟩, ⟨(some 12), none, .pick (.reg 9) (.const (.bool true)) (.reg 11)⟩, ⟨(some 2), none, .mov (.reg 12)⟩])
  .ret))⟩
theorem c137 : EL.fns 137 = some F137 := fns_of Tryz.func137 (by kernel_rfl) (by kernel_rfl)

/-- hearth/code.Depths -/
def F138 : IFun := ⟨56, [.tmp 2, .tmp 3], (.seq (.ops [⟨(some 1), none, .box (.reg 0)⟩, ⟨(some 2), none, .mov (.const (.frz [] true))⟩, ⟨(some 3), none, .mov (.const (.int .i64 0))⟩])
  (.seq (.seq (.ops [⟨(some 11), none, .load true 5 (.reg 1)⟩, ⟨(some 12), none, .call (.const (.func (.func 162) [] [])) [(.reg 11)]⟩, ⟨(some 13), none, .eqv true (.one .int) (.reg 12) (.const (.int .i64 0))⟩])
  (.cond (.reg 13)
  (.seq (.ops [⟨(some 2), none, .mov (.const (.frz [] true))⟩, ⟨(some 3), none, .mov (.const (.int .i64 2))⟩])
  .ret)
  .skip))
  (.seq (.ops [⟨(some 14), none, .addOff (.reg 1) 0⟩, ⟨(some 15), none, .load false 1 (.reg 14)⟩, ⟨(some 16), none, .len .slice (.reg 15)⟩, ⟨(some 17), none, .mkSlice 3 24 (.agg [(.bool false), (.int .i64 0), (.int .i64 0)]) (.reg 16) (.reg 16)⟩, ⟨(some 4), none, .alloc (.frz [] true)⟩, ⟨none, none, .store 1 (.reg 4) (.reg 17)⟩])
  (.seq (.ops [⟨(some 5), none, .alloc (.frz [] true)⟩])
  (.seq (.ops [⟨(some 18), none, .mkFunc (.func 163) [] [(.reg 4), (.reg 1), (.reg 5)]⟩, ⟨(some 6), none, .alloc .nilf⟩, ⟨none, none, .store 1 (.reg 6) (.reg 18)⟩])
  (.seq (.seq (.ops [⟨(some 19), none, .addOff (.reg 1) 2⟩, ⟨(some 20), none, .load false 1 (.reg 19)⟩, ⟨(some 21), none, .mkFunc (.func 166) [] [(.reg 6)]⟩, ⟨(some 22), none, .call (.const (.func (.func 165) [] [])) [(.reg 20), (.reg 21)]⟩, ⟨(some 23), none, .un .not (.reg 22)⟩])
  (.cond (.reg 23)
  (.seq (.ops [⟨(some 2), none, .mov (.const (.frz [] true))⟩, ⟨(some 3), none, .mov (.const (.int .i64 7))⟩])
  .ret)
  .skip))
  (.seq (.ops [⟨(some 7), none, .alloc (.bool false)⟩, ⟨none, none, .store 1 (.reg 7) (.const (.bool true))⟩])
  (.seq .skip
  (.seq (.block 0 (.loop
  (.seq (.seq (.ops [⟨(some 24), none, .load false 1 (.reg 5)⟩, ⟨(some 25), none, .len .slice (.reg 24)⟩, ⟨(some 26), none, .bin .gtr (.reg 25) (.const (.int .i64 0))⟩])
  (.cond (.reg 26)
  .skip
  (.exit 0)))
  (.block 1 (.seq (.ops [⟨(some 27), none, .load false 1 (.reg 5)⟩, ⟨(some 28), none, .load false 1 (.reg 5)⟩, ⟨(some 29), none, .len .slice (.reg 28)⟩, ⟨(some 30), none, .bin .sub (.reg 29) (.const (.int .i64 1))⟩, ⟨(some 31), none, .idxS 1 (.reg 27) (.reg 30)⟩, ⟨(some 32), none, .load false 1 (.reg 31)⟩, ⟨(some 8), none, .mov (.reg 32)⟩])
  (.seq (.ops [⟨(some 33), none, .load false 1 (.reg 5)⟩, ⟨(some 34), none, .load false 1 (.reg 5)⟩, ⟨(some 35), none, .len .slice (.reg 34)⟩, ⟨(some 36), none, .bin .sub (.reg 35) (.const (.int .i64 1))⟩, ⟨(some 37), none, .slice 1 (.reg 33) none (some (.reg 36)) none⟩, ⟨none, none, .store 1 (.reg 5) (.reg 37)⟩])
  (.seq (.draw [[], [(⟨(some 38), none, .load true 5 (.reg 1)⟩, []), (⟨(some 39), none, .mov (.reg 8)⟩, []), (⟨(some 40), none, .load false 1 (.reg 4)⟩, []), (⟨(some 41), none, .mov (.reg 8)⟩, []), (⟨(some 42), none, .idxS 3 (.reg 40) (.reg 41)⟩, [2, 3]), (⟨(some 43), none, .load true 3 (.reg 42)⟩, [2, 3, 4])], [(⟨(some 44), none, .call (.const (.func (.func 168) [] [])) [(.reg 38), (.reg 39), (.reg 43)]⟩, [])]])
  (.block 2 (.rangeF (.reg 44) [45, 46] (.seq (.ops [⟨(some 9), none, .mov (.reg 45)⟩])
  (.ops [⟨(some 10), none, .alloc (.agg [(.bool false), (.int .i64 0), (.int .i64 0)])⟩, ⟨none, none, .store 3 (.reg 10) (.reg 46)⟩]))
  (.block 3 (.seq (.ops [⟨(some 47), none, .load false 1 (.reg 6)⟩, ⟨(some 48), none, .mov (.reg 9)⟩, ⟨(some 49), none, .load true 3 (.reg 10)⟩, ⟨(some 50), none, .call (.reg 47) [(.reg 48), (.reg 49)]⟩, ⟨none, none, .store 1 (.reg 7) (.reg 50)⟩])
  (.seq (.ops [⟨(some 51), none, .load false 1 (.reg 7)⟩, ⟨(some 52), none, .un .not (.reg 51)⟩])
  (.cond (.reg 52)
  (.exit 0)
  .skip)))))))))))))
  (.seq (.seq (.ops [⟨(some 53), none, .load false 1 (.reg 7)⟩, ⟨(some 54), none, .un .not (.reg 53)⟩])
  (.cond (.reg 54)
  (.seq (.ops [⟨(some 2), none, .mov (.const (.frz [] true))⟩, ⟨(some 3), none, .mov (.const (.int .i64 7))⟩])
  .ret)
  .skip))
  (.seq (.ops [⟨(some 55), none, .load false 1 (.reg 4)⟩, ⟨(some 2), none, .mov (.reg 55)⟩, ⟨(some 3), none, .mov (.const (.int .i64 0))⟩])
  .ret)))))))))))⟩
theorem c138 : EL.fns 138 = some F138 := fns_of Tryz.func138 (by kernel_rfl) (by kernel_rfl)

/-- hearth/live.shapes -/
def F139 : IFun := ⟨46, [.tmp 0], (.seq (.ops [⟨(some 0), none, .mov (.const .nilm)⟩])
  (.seq (.ops [⟨(some 8), none, .mkMap⟩, ⟨(some 9), none, .build [(.int .i64 0), (.bool false)] [(0, 1, (.const (.int .i64 2))), (1, 1, (.const (.bool false)))]⟩, ⟨none, none, .mapSet (.one .int) (.reg 8) (.const (.int .i64 8)) (.reg 9)⟩, ⟨(some 10), none, .build [(.int .i64 0), (.bool false)] [(0, 1, (.const (.int .i64 1))), (1, 1, (.const (.bool false)))]⟩, ⟨none, none, .mapSet (.one .int) (.reg 8) (.const (.int .i64 9)) (.reg 10)⟩, ⟨(some 11), none, .build [(.int .i64 0), (.bool false)] [(0, 1, (.const (.int .i64 1))), (1, 1, (.const (.bool false)))]⟩, ⟨none, none, .mapSet (.one .int) (.reg 8) (.const (.int .i64 12)) (.reg 11)⟩, ⟨(some 12), none, .build [(.int .i64 0), (.bool false)] [(0, 1, (.const (.int .i64 1))), (1, 1, (.const (.bool false)))]⟩, ⟨none, none, .mapSet (.one .int) (.reg 8) (.const (.int .i64 19)) (.reg 12)⟩, ⟨(some 13), none, .build [(.int .i64 0), (.bool false)] [(0, 1, (.const (.int .i64 1))), (1, 1, (.const (.bool false)))]⟩, ⟨none, none, .mapSet (.one .int) (.reg 8) (.const (.int .i64 34)) (.reg 13)⟩, ⟨(some 14), none, .mov (.reg 8)⟩, ⟨(some 1), none, .mov (.reg 14)⟩])
  (.seq (.seq (.ops [⟨(some 15), none, .buildSlice 1 (.int .i64 0) 11 [(0, (.const (.int .i64 1))), (1, (.const (.int .i64 2))), (2, (.const (.int .i64 3))), (3, (.const (.int .i64 5))), (4, (.const (.int .i64 26))), (5, (.const (.int .i64 30))), (6, (.const (.int .i64 33))), (7, (.const (.int .i64 4))), (8, (.const (.int .i64 6))), (9, (.const (.int .i64 31))), (10, (.const (.int .i64 32)))]⟩, ⟨(some 16), none, .len .slice (.reg 15)⟩, ⟨(some 17), none, .mov (.const (.int .i64 0))⟩])
  (.block 0 (.loop
  (.seq (.ops [⟨(some 18), none, .bin .lss (.reg 17) (.reg 16)⟩])
  (.seq (.cond (.reg 18)
  .skip
  (.exit 0))
  (.seq (.block 1 (.seq (.ops [⟨(some 19), none, .idxS 1 (.reg 15) (.reg 17)⟩, ⟨(some 20), none, .load false 1 (.reg 19)⟩, ⟨(some 3), none, .mov (.reg 20)⟩])
  (.ops [⟨(some 21), none, .mov (.reg 1)⟩, ⟨(some 22), none, .mov (.reg 3)⟩, ⟨(some 23), none, .build [(.int .i64 0), (.bool false)] [(0, 1, (.const (.int .i64 0))), (1, 1, (.const (.bool true)))]⟩, ⟨none, none, .mapSet (.one .int) (.reg 21) (.reg 22) (.reg 23)⟩])))
  (.ops [⟨(some 24), none, .bin .add (.reg 17) (.const (.int .i64 1))⟩, ⟨(some 17), none, .mov (.reg 24)⟩])))))))
  (.seq (.seq (.ops [⟨(some 25), none, .buildSlice 1 (.int .i64 0) 6 [(0, (.const (.int .i64 21))), (1, (.const (.int .i64 22))), (2, (.const (.int .i64 24))), (3, (.const (.int .i64 25))), (4, (.const (.int .i64 28))), (5, (.const (.int .i64 29)))]⟩, ⟨(some 26), none, .len .slice (.reg 25)⟩, ⟨(some 27), none, .mov (.const (.int .i64 0))⟩])
  (.block 2 (.loop
  (.seq (.ops [⟨(some 28), none, .bin .lss (.reg 27) (.reg 26)⟩])
  (.seq (.cond (.reg 28)
  .skip
  (.exit 2))
  (.seq (.block 3 (.seq (.ops [⟨(some 29), none, .idxS 1 (.reg 25) (.reg 27)⟩, ⟨(some 30), none, .load false 1 (.reg 29)⟩, ⟨(some 5), none, .mov (.reg 30)⟩])
  (.ops [⟨(some 31), none, .mov (.reg 1)⟩, ⟨(some 32), none, .mov (.reg 5)⟩, ⟨(some 33), none, .build [(.int .i64 0), (.bool false)] [(0, 1, (.const (.int .i64 1))), (1, 1, (.const (.bool true)))]⟩, ⟨none, none, .mapSet (.one .int) (.reg 31) (.reg 32) (.reg 33)⟩])))
  (.ops [⟨(some 34), none, .bin .add (.reg 27) (.const (.int .i64 1))⟩, ⟨(some 27), none, .mov (.reg 34)⟩])))))))
  (.seq (.seq (.ops [⟨(some 35), none, .buildSlice 1 (.int .i64 0) 8 [(0, (.const (.int .i64 7))), (1, (.const (.int .i64 13))), (2, (.const (.int .i64 14))), (3, (.const (.int .i64 15))), (4, (.const (.int .i64 16))), (5, (.const (.int .i64 17))), (6, (.const (.int .i64 23))), (7, (.const (.int .i64 27)))]⟩, ⟨(some 36), none, .len .slice (.reg 35)⟩, ⟨(some 37), none, .mov (.const (.int .i64 0))⟩])
  (.block 4 (.loop
  (.seq (.ops [⟨(some 38), none, .bin .lss (.reg 37) (.reg 36)⟩])
  (.seq (.cond (.reg 38)
  .skip
  (.exit 4))
  (.seq (.block 5 (.seq (.ops [⟨(some 39), none, .idxS 1 (.reg 35) (.reg 37)⟩, ⟨(some 40), none, .load false 1 (.reg 39)⟩, ⟨(some 7), none, .mov (.reg 40)⟩])
  (.ops [⟨(some 41), none, .mov (.reg 1)⟩, ⟨(some 42), none, .mov (.reg 7)⟩, ⟨(some 43), none, .build [(.int .i64 0), (.bool false)] [(0, 1, (.const (.int .i64 2))), (1, 1, (.const (.bool true)))]⟩, ⟨none, none, .mapSet (.one .int) (.reg 41) (.reg 42) (.reg 43)⟩])))
  (.ops [⟨(some 44), none, .bin .add (.reg 37) (.const (.int .i64 1))⟩, ⟨(some 37), none, .mov (.reg 44)⟩])))))))
  (.seq (.ops [⟨(some 45), none, .mov (.reg 1)⟩, ⟨(some 0), none, .mov (.reg 45)⟩])
  .ret))))))⟩
theorem c139 : EL.fns 139 = some F139 := fns_of Tryz.func139 (by kernel_rfl) (by kernel_rfl)

/-- (*hearth/live.program).stepOf -/
def F140 : IFun := ⟨147, [.cell 6 true 3], (.seq (.ops [⟨(some 6), none, .alloc (.agg [(.frz [] true), (.frz [] true), (.frz [] true)])⟩])
  (.seq (.draw [[], [(⟨(some 11), none, .mov (.reg 0)⟩, []), (⟨(some 12), none, .nilCheck (.reg 11)⟩, [0]), (⟨(some 13), none, .addOff (.reg 12) 0⟩, [0, 1]), (⟨(some 14), none, .addOff (.reg 13) 0⟩, [0, 1, 2]), (⟨(some 15), none, .load false 1 (.reg 14)⟩, [0, 1, 2, 3]), (⟨(some 16), none, .mov (.reg 1)⟩, []), (⟨(some 17), none, .idxS 3 (.reg 15) (.reg 16)⟩, [0, 1, 2, 3, 4, 5]), (⟨(some 18), none, .load true 3 (.reg 17)⟩, [0, 1, 2, 3, 4, 5, 6]), (⟨(some 19), none, .mov (.reg 0)⟩, []), (⟨(some 20), none, .nilCheck (.reg 19)⟩, [8]), (⟨(some 21), none, .addOff (.reg 20) 5⟩, [8, 9]), (⟨(some 22), none, .load false 1 (.reg 21)⟩, [8, 9, 10]), (⟨(some 23), none, .mov (.reg 1)⟩, []), (⟨(some 24), none, .idxS 3 (.reg 22) (.reg 23)⟩, [8, 9, 10, 11, 12]), (⟨(some 25), none, .load true 3 (.reg 24)⟩, [8, 9, 10, 11, 12, 13]), (⟨(some 7), none, .alloc (.agg [(.int .i64 0), (.int .i64 0), (.int .i64 0)])⟩, []), (⟨(some 8), none, .alloc (.agg [(.bool false), (.int .i64 0), (.int .i64 0)])⟩, []), (⟨none, none, .store 3 (.reg 7) (.reg 18)⟩, [0, 1, 2, 3, 4, 5, 6, 7, 15, 16])], [(⟨none, none, .store 3 (.reg 8) (.reg 25)⟩, [])]])
  (.seq (.ops [⟨(some 26), none, .mov (.reg 2)⟩, ⟨(some 27), none, .addOff (.reg 7) 0⟩, ⟨(some 28), none, .load false 1 (.reg 27)⟩, ⟨(some 29), none, .lookup (.one .int) (.agg [(.int .i64 0), (.bool false)]) false (.reg 26) (.reg 28)⟩, ⟨(some 9), none, .alloc (.agg [(.int .i64 0), (.bool false)])⟩, ⟨none, none, .store 2 (.reg 9) (.reg 29)⟩])
  (.seq (.seq (.ops [⟨(some 30), none, .addOff (.reg 7) 0⟩, ⟨(some 31), none, .load false 1 (.reg 30)⟩, ⟨(some 32), none, .eqv false (.one .int) (.reg 31) (.const (.int .i64 18))⟩])
  (.cond (.reg 32)
  (.draw [[], [(⟨(some 33), none, .mov (.reg 0)⟩, []), (⟨(some 34), none, .nilCheck (.reg 33)⟩, [0]), (⟨(some 35), none, .addOff (.reg 34) 0⟩, [0, 1]), (⟨(some 36), none, .addOff (.reg 35) 4⟩, [0, 1, 2]), (⟨(some 37), none, .load false 1 (.reg 36)⟩, [0, 1, 2, 3]), (⟨(some 38), none, .addOff (.reg 7) 1⟩, []), (⟨(some 39), none, .load false 1 (.reg 38)⟩, [5])], [(⟨(some 40), none, .idxS 2 (.reg 37) (.reg 39)⟩, [])], [(⟨(some 41), none, .addOff (.reg 40) 1⟩, [])], [(⟨(some 42), none, .load false 1 (.reg 41)⟩, [])], [(⟨(some 43), none, .build [(.int .i64 0), (.bool false)] [(0, 1, (.reg 42)), (1, 1, (.const (.bool true)))]⟩, [])], [(⟨none, none, .store 2 (.reg 9) (.reg 43)⟩, [])]])
  .skip))
  (.seq (.ops [⟨(some 44), none, .addOff (.reg 8) 1⟩, ⟨(some 45), none, .load false 1 (.reg 44)⟩, ⟨(some 46), none, .addOff (.reg 9) 0⟩, ⟨(some 47), none, .load false 1 (.reg 46)⟩, ⟨(some 48), none, .bin .sub (.reg 45) (.reg 47)⟩, ⟨(some 49), none, .addOff (.reg 9) 0⟩, ⟨(some 50), none, .load false 1 (.reg 49)⟩, ⟨(some 51), none, .call (.const (.func (.func 154) [] [])) [(.reg 48), (.reg 50)]⟩, ⟨(some 52), none, .build [(.frz [] true), (.frz [] true), (.frz [] true)] [(0, 1, (.reg 51))]⟩, ⟨(some 10), none, .alloc (.agg [(.frz [] true), (.frz [] true), (.frz [] true)])⟩, ⟨none, none, .store 3 (.reg 10) (.reg 52)⟩])
  (.seq (.seq (.ops [⟨(some 53), none, .addOff (.reg 9) 1⟩, ⟨(some 54), none, .load false 1 (.reg 53)⟩])
  (.cond (.reg 54)
  (.ops [⟨(some 55), none, .addOff (.reg 8) 1⟩, ⟨(some 56), none, .load false 1 (.reg 55)⟩, ⟨(some 57), none, .addOff (.reg 9) 0⟩, ⟨(some 58), none, .load false 1 (.reg 57)⟩, ⟨(some 59), none, .bin .sub (.reg 56) (.reg 58)⟩, ⟨(some 60), none, .buildSlice 1 (.int .i64 0) 1 [(0, (.reg 59))]⟩, ⟨(some 61), none, .addOff (.reg 10) 1⟩, ⟨none, none, .store 1 (.reg 61) (.reg 60)⟩])
  .skip))
  (.seq (.seq (.ops [⟨(some 62), none, .addOff (.reg 7) 0⟩, ⟨(some 63), none, .load false 1 (.reg 62)⟩])
  (.block 0 (.seq (.ops [⟨(some 65), none, .eqv false (.one .int) (.reg 63) (.const (.int .i64 4))⟩, ⟨(some 64), none, .mov (.reg 65)⟩])
  (.cond (.reg 64)
  (.ops [⟨(some 66), none, .addOff (.reg 7) 1⟩, ⟨(some 67), none, .load false 1 (.reg 66)⟩, ⟨(some 68), none, .call (.const (.func (.func 155) [] [])) [(.reg 67)]⟩, ⟨(some 69), none, .buildSlice 1 (.int .i64 0) 1 [(0, (.reg 68))]⟩, ⟨(some 70), none, .addOff (.reg 10) 0⟩, ⟨none, none, .store 1 (.reg 70) (.reg 69)⟩])
  (.seq (.seq (.ops [⟨(some 72), none, .eqv false (.one .int) (.reg 63) (.const (.int .i64 6))⟩, ⟨(some 71), none, .mov (.reg 72)⟩])
  (.cond (.reg 71)
  .skip
  (.seq (.ops [⟨(some 73), none, .eqv false (.one .int) (.reg 63) (.const (.int .i64 31))⟩, ⟨(some 71), none, .mov (.reg 73)⟩])
  (.cond (.reg 71)
  .skip
  (.ops [⟨(some 74), none, .eqv false (.one .int) (.reg 63) (.const (.int .i64 32))⟩, ⟨(some 71), none, .mov (.reg 74)⟩])))))
  (.cond (.reg 71)
  (.draw [[], [(⟨(some 75), none, .call (.const (.func (.func 155) [] [])) [(.const (.int .i64 0))]⟩, []), (⟨(some 76), none, .addOff (.reg 8) 2⟩, []), (⟨(some 77), none, .load false 1 (.reg 76)⟩, [1])], [(⟨(some 78), none, .call (.const (.func (.func 154) [] [])) [(.reg 75), (.reg 77)]⟩, [])], [(⟨(some 79), none, .addOff (.reg 10) 0⟩, [])], [(⟨none, none, .store 1 (.reg 79) (.reg 78)⟩, [])]])
  (.seq (.ops [⟨(some 81), none, .eqv false (.one .int) (.reg 63) (.const (.int .i64 9))⟩, ⟨(some 80), none, .mov (.reg 81)⟩])
  (.cond (.reg 80)
  (.ops [⟨(some 82), none, .addOff (.reg 8) 2⟩, ⟨(some 83), none, .load false 1 (.reg 82)⟩, ⟨(some 84), none, .call (.const (.func (.func 155) [] [])) [(.reg 83)]⟩, ⟨(some 85), none, .buildSlice 1 (.int .i64 0) 1 [(0, (.reg 84))]⟩, ⟨(some 86), none, .addOff (.reg 10) 1⟩, ⟨none, none, .store 1 (.reg 86) (.reg 85)⟩])
  (.seq (.ops [⟨(some 88), none, .eqv false (.one .int) (.reg 63) (.const (.int .i64 19))⟩, ⟨(some 87), none, .mov (.reg 88)⟩])
  (.cond (.reg 87)
  (.draw [[], [(⟨(some 89), none, .addOff (.reg 8) 2⟩, []), (⟨(some 90), none, .load false 1 (.reg 89)⟩, [0]), (⟨(some 91), none, .call (.const (.func (.func 155) [] [])) [(.reg 90)]⟩, [0, 1]), (⟨(some 92), none, .mov (.reg 0)⟩, []), (⟨(some 93), none, .nilCheck (.reg 92)⟩, [3]), (⟨(some 94), none, .addOff (.reg 93) 0⟩, [3, 4]), (⟨(some 95), none, .addOff (.reg 94) 1⟩, [3, 4, 5]), (⟨(some 96), none, .load false 1 (.reg 95)⟩, [3, 4, 5, 6]), (⟨(some 97), none, .addOff (.reg 7) 1⟩, []), (⟨(some 98), none, .load false 1 (.reg 97)⟩, [8]), (⟨(some 99), none, .idxS 4 (.reg 96) (.reg 98)⟩, [3, 4, 5, 6, 7, 8, 9]), (⟨(some 100), none, .load true 4 (.reg 99)⟩, [3, 4, 5, 6, 7, 8, 9, 10])], [(⟨(some 101), none, .call (.const (.func (.func 169) [] [])) [(.reg 100)]⟩, [])], [(⟨(some 102), none, .call (.const (.func (.func 154) [] [])) [(.reg 91), (.reg 101)]⟩, [])], [(⟨(some 103), none, .addOff (.reg 10) 1⟩, [])], [(⟨none, none, .store 1 (.reg 103) (.reg 102)⟩, [])]])
  .skip))))))))))
  (.seq (.seq (.ops [⟨(some 104), none, .addOff (.reg 7) 0⟩, ⟨(some 105), none, .load false 1 (.reg 104)⟩])
  (.block 1 (.seq (.seq (.ops [⟨(some 114), none, .eqv false (.one .int) (.reg 105) (.const (.int .i64 8))⟩, ⟨(some 113), none, .mov (.reg 114)⟩])
  (.cond (.reg 113)
  .skip
  (.seq (.ops [⟨(some 115), none, .eqv false (.one .int) (.reg 105) (.const (.int .i64 20))⟩, ⟨(some 113), none, .mov (.reg 115)⟩])
  (.cond (.reg 113)
  .skip
  (.ops [⟨(some 116), none, .eqv false (.one .int) (.reg 105) (.const (.int .i64 34))⟩, ⟨(some 113), none, .mov (.reg 116)⟩])))))
  (.cond (.reg 113)
  .skip
  (.seq (.ops [⟨(some 118), none, .eqv false (.one .int) (.reg 105) (.const (.int .i64 11))⟩, ⟨(some 117), none, .mov (.reg 118)⟩])
  (.cond (.reg 117)
  (.ops [⟨(some 119), none, .addOff (.reg 7) 1⟩, ⟨(some 120), none, .load false 1 (.reg 119)⟩, ⟨(some 121), none, .build [(.int .i64 0), (.frz [] true)] [(0, 1, (.reg 120)), (1, 1, (.const (.frz [] true)))]⟩, ⟨(some 122), none, .buildSlice 2 (.agg [(.int .i64 0), (.frz [] true)]) 1 [(0, (.reg 121))]⟩, ⟨(some 123), none, .addOff (.reg 10) 2⟩, ⟨none, none, .store 1 (.reg 123) (.reg 122)⟩])
  (.seq (.ops [⟨(some 125), none, .eqv false (.one .int) (.reg 105) (.const (.int .i64 12))⟩, ⟨(some 124), none, .mov (.reg 125)⟩])
  (.cond (.reg 124)
  (.ops [⟨(some 126), none, .mov (.reg 1)⟩, ⟨(some 127), none, .bin .add (.reg 126) (.const (.int .i64 1))⟩, ⟨(some 128), none, .build [(.int .i64 0), (.frz [] true)] [(0, 1, (.reg 127)), (1, 1, (.const (.frz [] true)))]⟩, ⟨(some 129), none, .addOff (.reg 7) 1⟩, ⟨(some 130), none, .load false 1 (.reg 129)⟩, ⟨(some 131), none, .build [(.int .i64 0), (.frz [] true)] [(0, 1, (.reg 130)), (1, 1, (.const (.frz [] true)))]⟩, ⟨(some 132), none, .buildSlice 2 (.agg [(.int .i64 0), (.frz [] true)]) 2 [(0, (.reg 128)), (1, (.reg 131))]⟩, ⟨(some 133), none, .addOff (.reg 10) 2⟩, ⟨none, none, .store 1 (.reg 133) (.reg 132)⟩])
  (.seq (.ops [⟨(some 135), none, .eqv false (.one .int) (.reg 105) (.const (.int .i64 19))⟩, ⟨(some 134), none, .mov (.reg 135)⟩])
  (.cond (.reg 134)
  (.ops [⟨(some 136), none, .mov (.reg 1)⟩, ⟨(some 137), none, .bin .add (.reg 136) (.const (.int .i64 1))⟩, ⟨(some 138), none, .addOff (.reg 10) 1⟩, ⟨(some 139), none, .load false 1 (.reg 138)⟩, ⟨(some 140), none, .build [(.int .i64 0), (.frz [] true)] [(0, 1, (.reg 137)), (1, 1, (.reg 139))]⟩, ⟨(some 141), none, .addOff (.reg 7) 2⟩, ⟨(some 142), none, .load false 1 (.reg 141)⟩, ⟨(some 143), none, .build [(.int .i64 0), (.frz [] true)] [(0, 1, (.reg 142)), (1, 1, (.const (.frz [] true)))]⟩, ⟨(some 144), none, .buildSlice 2 (.agg [(.int .i64 0), (.frz [] true)]) 2 [(0, (.reg 140)), (1, (.reg 143))]⟩, ⟨(some 145), none, .addOff (.reg 10) 2⟩, ⟨none, none, .store 1 (.reg 145) (.reg 144)⟩])
  (.ops [⟨(some 106), none, .mov (.reg 1)⟩, ⟨(some 107), none, .bin .add (.reg 106) (.const (.int .i64 1))⟩, ⟨(some 108), none, .addOff (.reg 10) 1⟩, ⟨(some 109), none, .load false 1 (.reg 108)⟩, ⟨(some 110), none, .build [(.int .i64 0), (.frz [] true)] [(0, 1, (.reg 107)), (1, 1, (.reg 109))]⟩, ⟨(some 111), none, .buildSlice 2 (.agg [(.int .i64 0), (.frz [] true)]) 1 [(0, (.reg 110))]⟩, ⟨(some 112), none, .addOff (.reg 10) 2⟩, ⟨none, none, .store 1 (.reg 112) (.reg 111)⟩])))))))))))
  (.seq (.ops [⟨(some 146), none, .load true 3 (.reg 10)⟩, ⟨none, none, .store 3 (.reg 6) (.reg 146)⟩])
  .ret)))))))))⟩
theorem c140 : EL.fns 140 = some F140 := fns_of Tryz.func140 (by kernel_rfl) (by kernel_rfl)

/-- (*hearth/live.program).reached$1 -/
def F142 : IFun := ⟨24, [], (.seq (.ops [⟨(some 5), none, .load false 1 (.reg 1)⟩, ⟨(some 6), none, .nilCheck (.reg 5)⟩, ⟨(some 7), none, .addOff (.reg 6) 5⟩, ⟨(some 8), none, .load false 1 (.reg 7)⟩, ⟨(some 9), none, .len .slice (.reg 8)⟩, ⟨(some 10), none, .mov (.const (.int .i64 0))⟩])
  (.block 0 (.loop
  (.seq (.ops [⟨(some 11), none, .bin .lss (.reg 10) (.reg 9)⟩])
  (.seq (.cond (.reg 11)
  .skip
  (.exit 0))
  (.seq (.block 1 (.seq (.ops [⟨(some 12), none, .mov (.reg 10)⟩, ⟨(some 13), none, .idxS 3 (.reg 8) (.reg 10)⟩, ⟨(some 14), none, .load true 3 (.reg 13)⟩, ⟨(some 4), none, .alloc (.agg [(.bool false), (.int .i64 0), (.int .i64 0)])⟩, ⟨(some 3), none, .mov (.reg 12)⟩, ⟨none, none, .store 3 (.reg 4) (.reg 14)⟩])
  (.seq (.ops [⟨(some 15), none, .addOff (.reg 4) 0⟩, ⟨(some 16), none, .load false 1 (.reg 15)⟩, ⟨(some 17), none, .mov (.reg 16)⟩, ⟨(some 18), (some ((some 17), true)), .mov (.reg 0)⟩, ⟨(some 19), (some ((some 17), true)), .mov (.reg 3)⟩, ⟨(some 20), (some ((some 17), true)), .call (.reg 18) [(.reg 19)]⟩, ⟨(some 21), (some ((some 17), true)), .un .not (.reg 20)⟩, ⟨(some 22), none, .pick (.reg 17) (.reg 21) (.const (.bool false))⟩])
  (.cond (.reg 22)
  .ret
  .skip))))
  (.ops [⟨(some 23), none, .bin .add (.reg 10) (.const (.int .i64 1))⟩, ⟨(some 10), none, .mov (.reg 23)⟩])))))))⟩
theorem c142 : EL.fns 142 = some F142 := fns_of Tryz.func142 (by kernel_rfl) (by kernel_rfl)

/-- slices.insertionSortOrdered[int] -/
def F143 : IFun := ⟨49, [], (.seq (.ops [⟨(some 8), none, .mov (.reg 1)⟩, ⟨(some 9), none, .bin .add (.reg 8) (.const (.int .i64 1))⟩, ⟨(some 6), none, .mov (.reg 9)⟩])
  (.block 0 (.loop
  (.seq (.seq (.ops [⟨(some 10), none, .mov (.reg 6)⟩, ⟨(some 11), none, .mov (.reg 2)⟩, ⟨(some 12), none, .bin .lss (.reg 10) (.reg 11)⟩])
  (.cond (.reg 12)
  .skip
  (.exit 0)))
  (.seq (.block 1 (.seq (.ops [⟨(some 15), none, .mov (.reg 6)⟩, ⟨(some 7), none, .mov (.reg 15)⟩])
  (.block 2 (.loop
  (.seq (.seq (.draw [[], [(⟨(some 16), none, .mov (.reg 7)⟩, []), (⟨(some 17), none, .mov (.reg 1)⟩, [])], [(⟨(some 18), none, .bin .gtr (.reg 16) (.reg 17)⟩, [])], [(⟨(some 19), none, .mov (.reg 18)⟩, [])], [(⟨(some 20), (some ((some 19), true)), .mov (.reg 0)⟩, []), (⟨(some 21), (some ((some 19), true)), .mov (.reg 7)⟩, []), (⟨(some 22), (some ((some 19), true)), .idxS 1 (.reg 20) (.reg 21)⟩, [0, 1]), (⟨(some 23), (some ((some 19), true)), .load false 1 (.reg 22)⟩, [0, 1, 2]), (⟨(some 24), (some ((some 19), true)), .mov (.reg 0)⟩, []), (⟨(some 25), (some ((some 19), true)), .mov (.reg 7)⟩, []), (⟨(some 26), (some ((some 19), true)), .bin .sub (.reg 25) (.const (.int .i64 1))⟩, [5]), (⟨(some 27), (some ((some 19), true)), .idxS 1 (.reg 24) (.reg 26)⟩, [4, 5, 6]), (⟨(some 28), (some ((some 19), true)), .load false 1 (.reg 27)⟩, [4, 5, 6, 7])], [(⟨(some 29), (some ((some 19), true)), .call (.const (.func (.func 111) [] [])) [(.reg 23), (.reg 28)]⟩, [])], [(⟨(some 30), none, .pick (.reg 19) (.reg 29) (.const (.bool false))⟩, [])]])
  (.cond (.reg 30)
  .skip
  (.exit 2)))
  (.seq (.block 3 (.draw [[], [(⟨(some 33), none, .mov (.reg 0)⟩, []), (⟨(some 34), none, .mov (.reg 7)⟩, []), (⟨(some 35), none, .mov (.reg 0)⟩, []), (⟨(some 36), none, .mov (.reg 7)⟩, []), (⟨(some 37), none, .bin .sub (.reg 36) (.const (.int .i64 1))⟩, [3]), (⟨(some 38), none, .mov (.reg 0)⟩, []), (⟨(some 39), none, .mov (.reg 7)⟩, []), (⟨(some 40), none, .bin .sub (.reg 39) (.const (.int .i64 1))⟩, [6]), (⟨(some 41), none, .idxS 1 (.reg 38) (.reg 40)⟩, [5, 6, 7]), (⟨(some 42), none, .load false 1 (.reg 41)⟩, [5, 6, 7, 8]), (⟨(some 43), none, .mov (.reg 0)⟩, []), (⟨(some 44), none, .mov (.reg 7)⟩, []), (⟨(some 45), none, .idxS 1 (.reg 43) (.reg 44)⟩, [10, 11]), (⟨(some 46), none, .load false 1 (.reg 45)⟩, [10, 11, 12]), (⟨(some 47), none, .idxS 1 (.reg 33) (.reg 34)⟩, [0, 1, 5, 6, 7, 8, 9, 10, 11, 12, 13]), (⟨none, none, .store 1 (.reg 47) (.reg 42)⟩, [0, 1, 5, 6, 7, 8, 9, 10, 11, 12, 13, 14])], [(⟨(some 48), none, .idxS 1 (.reg 35) (.reg 37)⟩, [])], [(⟨none, none, .store 1 (.reg 48) (.reg 46)⟩, [])]]))
  (.ops [⟨(some 31), none, .mov (.reg 7)⟩, ⟨(some 32), none, .bin .sub (.reg 31) (.const (.int .i64 1))⟩, ⟨(some 7), none, .mov (.reg 32)⟩])))))))
  (.ops [⟨(some 13), none, .mov (.reg 6)⟩, ⟨(some 14), none, .bin .add (.reg 13) (.const (.int .i64 1))⟩, ⟨(some 6), none, .mov (.reg 14)⟩]))))))⟩
theorem c143 : EL.fns 143 = some F143 := fns_of Tryz.func143 (by kernel_rfl) (by kernel_rfl)

/-- hearth/hearthref01.smallPat -/
def F153 : IFun := ⟨22, [.tmp 2], (.seq (.ops [⟨(some 1), none, .box (.reg 0)⟩, ⟨(some 2), none, .mov (.const (.bool false))⟩])
  (.seq (.seq (.ops [⟨(some 3), none, .mov (.const (.int .i64 0))⟩])
  (.block 0 (.loop
  (.seq (.seq (.ops [⟨(some 4), none, .mov (.reg 3)⟩, ⟨(some 5), none, .addOff (.reg 1) 3⟩, ⟨(some 6), none, .load false 1 (.reg 5)⟩, ⟨(some 7), none, .len .slice (.reg 6)⟩, ⟨(some 8), none, .bin .lss (.reg 4) (.reg 7)⟩])
  (.cond (.reg 8)
  .skip
  (.exit 0)))
  (.seq (.block 1 (.seq (.ops [⟨(some 11), none, .addOff (.reg 1) 3⟩, ⟨(some 12), none, .load false 1 (.reg 11)⟩, ⟨(some 13), none, .mov (.reg 3)⟩, ⟨(some 14), none, .idxS 4 (.reg 12) (.reg 13)⟩, ⟨(some 15), none, .load true 4 (.reg 14)⟩, ⟨(some 16), none, .call (.const (.func (.func 153) [] [])) [(.reg 15)]⟩, ⟨(some 17), none, .un .not (.reg 16)⟩])
  (.cond (.reg 17)
  (.seq (.ops [⟨(some 2), none, .mov (.const (.bool false))⟩])
  .ret)
  .skip)))
  (.ops [⟨(some 9), none, .mov (.reg 3)⟩, ⟨(some 10), none, .bin .add (.reg 9) (.const (.int .i64 1))⟩, ⟨(some 3), none, .mov (.reg 10)⟩]))))))
  (.seq (.ops [⟨(some 18), none, .addOff (.reg 1) 2⟩, ⟨(some 19), none, .load false 1 (.reg 18)⟩, ⟨(some 20), none, .len .str (.reg 19)⟩, ⟨(some 21), none, .bin .leq (.reg 20) (.const (.int .i64 30))⟩, ⟨(some 2), none, .mov (.reg 21)⟩])
  .ret)))⟩
theorem c153 : EL.fns 153 = some F153 := fns_of Tryz.func153 (by kernel_rfl) (by kernel_rfl)

/-- hearth/live.count -/
def F154 : IFun := ⟨19, [.tmp 4], (.seq (.ops [⟨(some 4), none, .mov (.const (.frz [] true))⟩])
  (.seq (.ops [⟨(some 5), none, .mov (.const (.frz [] true))⟩])
  (.seq (.seq (.ops [⟨(some 7), none, .mov (.reg 1)⟩, ⟨(some 8), none, .mov (.const (.int .i64 0))⟩])
  (.block 0 (.loop
  (.seq (.ops [⟨(some 9), none, .bin .lss (.reg 8) (.reg 7)⟩])
  (.seq (.cond (.reg 9)
  .skip
  (.exit 0))
  (.seq (.block 1 (.seq (.ops [⟨(some 10), none, .mov (.reg 8)⟩, ⟨(some 6), none, .mov (.reg 10)⟩])
  (.ops [⟨(some 11), none, .mov (.reg 5)⟩, ⟨(some 12), none, .mov (.reg 0)⟩, ⟨(some 13), none, .mov (.reg 6)⟩, ⟨(some 14), none, .bin .add (.reg 12) (.reg 13)⟩, ⟨(some 15), none, .buildSlice 1 (.int .i64 0) 1 [(0, (.reg 14))]⟩, ⟨(some 16), none, .append 1 8 (.reg 11) (.reg 15)⟩, ⟨(some 5), none, .mov (.reg 16)⟩])))
  (.ops [⟨(some 17), none, .bin .add (.reg 8) (.const (.int .i64 1))⟩, ⟨(some 8), none, .mov (.reg 17)⟩])))))))
  (.seq (.ops [⟨(some 18), none, .mov (.reg 5)⟩, ⟨(some 4), none, .mov (.reg 18)⟩])
  .ret))))⟩
theorem c154 : EL.fns 154 = some F154 := fns_of Tryz.func154 (by kernel_rfl) (by kernel_rfl)

/-- hearth/live.env -/
def F155 : IFun := ⟨5, [.tmp 2], (.seq (.ops [⟨(some 2), none, .mov (.const (.int .i64 0))⟩])
  (.seq (.ops [⟨(some 3), none, .mov (.reg 0)⟩, ⟨(some 4), none, .bin .add (.const (.int .i64 60)) (.reg 3)⟩, ⟨(some 2), none, .mov (.reg 4)⟩])
  .ret))⟩
theorem c155 : EL.fns 155 = some F155 := fns_of Tryz.func155 (by kernel_rfl) (by kernel_rfl)

/-- hearth/hearthref05.cons -/
def F158 : IFun := ⟨42, [.tmp 2], (.seq (.ops [⟨(some 2), none, .mov (.const (.bool false))⟩])
  (.seq (.ops [⟨(some 3), none, .mov (.const (.frz [] true))⟩])
  (.seq (.seq (.ops [⟨(some 4), none, .mov (.const (.int .i64 0))⟩])
  (.block 0 (.loop
  (.seq (.seq (.ops [⟨(some 5), none, .mov (.reg 4)⟩, ⟨(some 6), none, .mov (.reg 0)⟩, ⟨(some 7), none, .len .slice (.reg 6)⟩, ⟨(some 8), none, .bin .lss (.reg 5) (.reg 7)⟩])
  (.cond (.reg 8)
  .skip
  (.exit 0)))
  (.seq (.block 1 (.seq (.seq (.ops [⟨(some 11), none, .mov (.reg 0)⟩, ⟨(some 12), none, .mov (.reg 4)⟩, ⟨(some 13), none, .idxS 2 (.reg 11) (.reg 12)⟩, ⟨(some 14), none, .addOff (.reg 13) 0⟩, ⟨(some 15), none, .load false 1 (.reg 14)⟩, ⟨(some 16), none, .call (.const (.func (.func 176) [] [])) [(.reg 15)]⟩, ⟨(some 17), none, .un .not (.reg 16)⟩, ⟨(some 18), none, .mov (.reg 17)⟩, ⟨(some 19), (some ((some 18), false)), .mov (.reg 0)⟩, ⟨(some 20), (some ((some 18), false)), .mov (.reg 4)⟩, ⟨(some 21), (some ((some 18), false)), .idxS 2 (.reg 19) (.reg 20)⟩, ⟨(some 22), (some ((some 18), false)), .addOff (.reg 21) 1⟩, ⟨(some 23), (some ((some 18), false)), .load false 1 (.reg 22)⟩, ⟨(some 24), (some ((some 18), false)), .call (.const (.func (.func 177) [] [])) [(.reg 23), (.const (.int .i64 0)), (.const (.int .i64 3))]⟩, ⟨(some 25), (some ((some 18), false)), .un .not (.reg 24)⟩, ⟨(some 26), none, .pick (.reg 18) (.const (.bool true)) (.reg 25)⟩])
  (.cond (.reg 26)
  (.seq (.ops [⟨(some 2), none, .mov (.const (.bool false))⟩])
  .ret)
  .skip))
  (.ops [⟨(some 27), none, .mov (.reg 3)⟩, ⟨(some 28), none, .mov (.reg 0)⟩, ⟨(some 29), none, .mov (.reg 4)⟩, ⟨(some 30), none, .idxS 2 (.reg 28) (.reg 29)⟩, ⟨(some 31), none, .addOff (.reg 30) 0⟩, ⟨(some 32), none, .load false 1 (.reg 31)⟩, ⟨(some 33), none, .buildSlice 1 (.str ⟨#[]⟩) 1 [(0, (.reg 32))]⟩, ⟨(some 34), none, .append 1 16 (.reg 27) (.reg 33)⟩, ⟨(some 3), none, .mov (.reg 34)⟩])))
  (.ops [⟨(some 9), none, .mov (.reg 4)⟩, ⟨(some 10), none, .bin .add (.reg 9) (.const (.int .i64 1))⟩, ⟨(some 4), none, .mov (.reg 10)⟩]))))))
  (.seq (.ops [⟨(some 35), none, .mov (.reg 0)⟩, ⟨(some 36), none, .len .slice (.reg 35)⟩, ⟨(some 37), none, .bin .leq (.reg 36) (.const (.int .i64 20))⟩, ⟨(some 38), none, .mov (.reg 37)⟩, ⟨(some 39), (some ((some 38), true)), .mov (.reg 3)⟩, ⟨(some 40), (some ((some 38), true)), .call (.const (.func (.func 178) [] [])) [(.reg 39)]⟩, ⟨(some 41), none, .pick (.reg 38) (.reg 40) (.const (.bool false))⟩, ⟨(some 2), none, .mov (.reg 41)⟩])
  .ret))))⟩
theorem c158 : EL.fns 158 = some F158 := fns_of Tryz.func158 (by kernel_rfl) (by kernel_rfl)

def F159b0 : ICode := (.block 0 (.seq (.seq (.ops [⟨(some 14), none, .eqv false (.one .int) (.reg 12) (.const (.int .i64 1))⟩, ⟨(some 13), none, .mov (.reg 14)⟩])
  (.cond (.reg 13)
  .skip
  (.seq (.ops [⟨(some 15), none, .eqv false (.one .int) (.reg 12) (.const (.int .i64 2))⟩, ⟨(some 13), none, .mov (.reg 15)⟩])
  (.cond (.reg 13)
  .skip
  (.ops [⟨(some 16), none, .eqv false (.one .int) (.reg 12) (.const (.int .i64 5))⟩, ⟨(some 13), none, .mov (.reg 16)⟩])))))
  (.cond (.reg 13)
  (.ops [⟨(some 17), none, .mov (.reg 6)⟩, ⟨(some 18), none, .eqv false (.one .int) (.reg 17) (.const (.int .i64 0))⟩, ⟨(some 19), none, .mov (.reg 18)⟩, ⟨(some 20), (some ((some 19), true)), .addOff (.reg 2) 1⟩, ⟨(some 21), (some ((some 19), true)), .load false 1 (.reg 20)⟩, ⟨(some 22), (some ((some 19), true)), .eqv false (.one .int) (.reg 21) (.const (.int .i64 0))⟩, ⟨(some 23), none, .pick (.reg 19) (.reg 22) (.const (.bool false))⟩, ⟨(some 5), none, .mov (.reg 23)⟩])
  (.seq (.ops [⟨(some 25), none, .eqv false (.one .int) (.reg 12) (.const (.int .i64 3))⟩, ⟨(some 24), none, .mov (.reg 25)⟩])
  (.cond (.reg 24)
  (.ops [⟨(some 26), none, .mov (.reg 6)⟩, ⟨(some 27), none, .eqv false (.one .int) (.reg 26) (.const (.int .i64 0))⟩, ⟨(some 28), none, .mov (.reg 27)⟩, ⟨(some 29), (some ((some 28), true)), .addOff (.reg 2) 1⟩, ⟨(some 30), (some ((some 28), true)), .load false 1 (.reg 29)⟩, ⟨(some 31), (some ((some 28), true)), .call (.const (.func (.func 177) [] [])) [(.reg 30), (.const (.int .i64 (-1000000000))), (.const (.int .i64 1000000000))]⟩, ⟨(some 32), none, .pick (.reg 28) (.reg 31) (.const (.bool false))⟩, ⟨(some 5), none, .mov (.reg 32)⟩])
  (.seq (.ops [⟨(some 34), none, .eqv false (.one .int) (.reg 12) (.const (.int .i64 4))⟩, ⟨(some 33), none, .mov (.reg 34)⟩])
  (.cond (.reg 33)
  (.ops [⟨(some 35), none, .mov (.reg 6)⟩, ⟨(some 36), none, .eqv false (.one .int) (.reg 35) (.const (.int .i64 0))⟩, ⟨(some 37), none, .mov (.reg 36)⟩, ⟨(some 38), (some ((some 37), true)), .addOff (.reg 2) 1⟩, ⟨(some 39), (some ((some 37), true)), .load false 1 (.reg 38)⟩, ⟨(some 40), (some ((some 37), true)), .call (.const (.func (.func 177) [] [])) [(.reg 39), (.const (.int .i64 0)), (.const (.int .i64 1))]⟩, ⟨(some 41), none, .pick (.reg 37) (.reg 40) (.const (.bool false))⟩, ⟨(some 5), none, .mov (.reg 41)⟩])
  (.seq (.ops [⟨(some 43), none, .eqv false (.one .int) (.reg 12) (.const (.int .i64 6))⟩, ⟨(some 42), none, .mov (.reg 43)⟩])
  (.cond (.reg 42)
  (.ops [⟨(some 44), none, .addOff (.reg 2) 1⟩, ⟨(some 45), none, .load false 1 (.reg 44)⟩, ⟨(some 46), none, .mov (.reg 1)⟩, ⟨(some 47), none, .len .slice (.reg 46)⟩, ⟨(some 48), none, .bin .sub (.reg 47) (.const (.int .i64 1))⟩, ⟨(some 49), none, .call (.const (.func (.func 177) [] [])) [(.reg 45), (.const (.int .i64 0)), (.reg 48)]⟩, ⟨(some 50), none, .mov (.reg 49)⟩, ⟨(some 51), (some ((some 50), true)), .mov (.reg 6)⟩, ⟨(some 52), (some ((some 50), true)), .mov (.reg 1)⟩, ⟨(some 53), (some ((some 50), true)), .addOff (.reg 2) 1⟩, ⟨(some 54), (some ((some 50), true)), .load false 1 (.reg 53)⟩, ⟨(some 55), (some ((some 50), true)), .idxS 2 (.reg 52) (.reg 54)⟩, ⟨(some 56), (some ((some 50), true)), .addOff (.reg 55) 1⟩, ⟨(some 57), (some ((some 50), true)), .load false 1 (.reg 56)⟩, ⟨(some 58), (some ((some 50), true)), .eqv false (.one .int) (.reg 51) (.reg 57)⟩, ⟨(some 59), none, .pick (.reg 50) (.reg 58) (.const (.bool false))⟩, ⟨(some 5), none, .mov (.reg 59)⟩])
  .skip)))))))))

/-- hearth/hearthref05.pat -/
def F159 : IFun := ⟨82, [.tmp 4], (.seq (.ops [⟨(some 2), none, .box (.reg 0)⟩, ⟨(some 4), none, .mov (.const (.bool false))⟩])
  (.seq (.ops [⟨(some 5), none, .mov (.const (.bool false))⟩])
  (.seq (.ops [⟨(some 8), none, .addOff (.reg 2) 3⟩, ⟨(some 9), none, .load false 1 (.reg 8)⟩, ⟨(some 10), none, .len .slice (.reg 9)⟩, ⟨(some 6), none, .mov (.reg 10)⟩])
  (.seq (.seq (.ops [⟨(some 11), none, .addOff (.reg 2) 0⟩, ⟨(some 12), none, .load false 1 (.reg 11)⟩])
  F159b0)
  (.seq (.ops [⟨(some 60), none, .mov (.reg 5)⟩, ⟨(some 61), none, .mov (.reg 60)⟩, ⟨(some 62), (some ((some 61), true)), .addOff (.reg 2) 2⟩, ⟨(some 63), (some ((some 61), true)), .load false 1 (.reg 62)⟩, ⟨(some 64), (some ((some 61), true)), .eqv false (.one .str) (.reg 63) (.const (.str ⟨#[]⟩))⟩, ⟨(some 65), none, .pick (.reg 61) (.reg 64) (.const (.bool false))⟩, ⟨(some 5), none, .mov (.reg 65)⟩])
  (.seq (.seq (.ops [⟨(some 7), none, .mov (.const (.int .i64 0))⟩])
  (.block 1 (.loop
  (.seq (.seq (.ops [⟨(some 66), none, .mov (.reg 7)⟩, ⟨(some 67), none, .mov (.reg 6)⟩, ⟨(some 68), none, .bin .lss (.reg 66) (.reg 67)⟩, ⟨(some 69), none, .mov (.reg 68)⟩, ⟨(some 70), (some ((some 69), true)), .mov (.reg 5)⟩, ⟨(some 71), none, .pick (.reg 69) (.reg 70) (.const (.bool false))⟩])
  (.cond (.reg 71)
  .skip
  (.exit 1)))
  (.seq (.block 2 (.ops [⟨(some 74), none, .addOff (.reg 2) 3⟩, ⟨(some 75), none, .load false 1 (.reg 74)⟩, ⟨(some 76), none, .mov (.reg 7)⟩, ⟨(some 77), none, .idxS 4 (.reg 75) (.reg 76)⟩, ⟨(some 78), none, .load true 4 (.reg 77)⟩, ⟨(some 79), none, .mov (.reg 1)⟩, ⟨(some 80), none, .call (.const (.func (.func 159) [] [])) [(.reg 78), (.reg 79)]⟩, ⟨(some 5), none, .mov (.reg 80)⟩]))
  (.ops [⟨(some 72), none, .mov (.reg 7)⟩, ⟨(some 73), none, .bin .add (.reg 72) (.const (.int .i64 1))⟩, ⟨(some 7), none, .mov (.reg 73)⟩]))))))
  (.seq (.ops [⟨(some 81), none, .mov (.reg 5)⟩, ⟨(some 4), none, .mov (.reg 81)⟩])
  .ret)))))))⟩
theorem c159 : EL.fns 159 = some F159 := fns_of Tryz.func159 (by kernel_rfl) (by kernel_rfl)

/-- hearth/hearthref10.asks -/
def F160 : IFun := ⟨39, [.tmp 4], (.seq (.ops [⟨(some 2), none, .box (.reg 0)⟩, ⟨(some 3), none, .box (.reg 1)⟩, ⟨(some 4), none, .mov (.const (.int .i64 0))⟩])
  (.seq (.seq (.ops [⟨(some 5), none, .addOff (.reg 3) 0⟩, ⟨(some 6), none, .load false 1 (.reg 5)⟩])
  (.block 0 (.seq (.seq (.ops [⟨(some 8), none, .eqv false (.one .int) (.reg 6) (.const (.int .i64 7))⟩, ⟨(some 7), none, .mov (.reg 8)⟩])
  (.cond (.reg 7)
  .skip
  (.seq (.ops [⟨(some 9), none, .eqv false (.one .int) (.reg 6) (.const (.int .i64 13))⟩, ⟨(some 7), none, .mov (.reg 9)⟩])
  (.cond (.reg 7)
  .skip
  (.seq (.ops [⟨(some 10), none, .eqv false (.one .int) (.reg 6) (.const (.int .i64 14))⟩, ⟨(some 7), none, .mov (.reg 10)⟩])
  (.cond (.reg 7)
  .skip
  (.seq (.ops [⟨(some 11), none, .eqv false (.one .int) (.reg 6) (.const (.int .i64 15))⟩, ⟨(some 7), none, .mov (.reg 11)⟩])
  (.cond (.reg 7)
  .skip
  (.seq (.ops [⟨(some 12), none, .eqv false (.one .int) (.reg 6) (.const (.int .i64 16))⟩, ⟨(some 7), none, .mov (.reg 12)⟩])
  (.cond (.reg 7)
  .skip
  (.seq (.ops [⟨(some 13), none, .eqv false (.one .int) (.reg 6) (.const (.int .i64 17))⟩, ⟨(some 7), none, .mov (.reg 13)⟩])
  (.cond (.reg 7)
  .skip
  (.seq (.ops [⟨(some 14), none, .eqv false (.one .int) (.reg 6) (.const (.int .i64 23))⟩, ⟨(some 7), none, .mov (.reg 14)⟩])
  (.cond (.reg 7)
  .skip
  (.ops [⟨(some 15), none, .eqv false (.one .int) (.reg 6) (.const (.int .i64 27))⟩, ⟨(some 7), none, .mov (.reg 15)⟩])))))))))))))))
  (.cond (.reg 7)
  (.seq (.ops [⟨(some 4), none, .mov (.const (.int .i64 2))⟩])
  .ret)
  (.seq (.seq (.ops [⟨(some 17), none, .eqv false (.one .int) (.reg 6) (.const (.int .i64 9))⟩, ⟨(some 16), none, .mov (.reg 17)⟩])
  (.cond (.reg 16)
  .skip
  (.seq (.ops [⟨(some 18), none, .eqv false (.one .int) (.reg 6) (.const (.int .i64 12))⟩, ⟨(some 16), none, .mov (.reg 18)⟩])
  (.cond (.reg 16)
  .skip
  (.seq (.ops [⟨(some 19), none, .eqv false (.one .int) (.reg 6) (.const (.int .i64 19))⟩, ⟨(some 16), none, .mov (.reg 19)⟩])
  (.cond (.reg 16)
  .skip
  (.seq (.ops [⟨(some 20), none, .eqv false (.one .int) (.reg 6) (.const (.int .i64 21))⟩, ⟨(some 16), none, .mov (.reg 20)⟩])
  (.cond (.reg 16)
  .skip
  (.seq (.ops [⟨(some 21), none, .eqv false (.one .int) (.reg 6) (.const (.int .i64 22))⟩, ⟨(some 16), none, .mov (.reg 21)⟩])
  (.cond (.reg 16)
  .skip
  (.seq (.ops [⟨(some 22), none, .eqv false (.one .int) (.reg 6) (.const (.int .i64 24))⟩, ⟨(some 16), none, .mov (.reg 22)⟩])
  (.cond (.reg 16)
  .skip
  (.seq (.ops [⟨(some 23), none, .eqv false (.one .int) (.reg 6) (.const (.int .i64 25))⟩, ⟨(some 16), none, .mov (.reg 23)⟩])
  (.cond (.reg 16)
  .skip
  (.seq (.ops [⟨(some 24), none, .eqv false (.one .int) (.reg 6) (.const (.int .i64 28))⟩, ⟨(some 16), none, .mov (.reg 24)⟩])
  (.cond (.reg 16)
  .skip
  (.ops [⟨(some 25), none, .eqv false (.one .int) (.reg 6) (.const (.int .i64 29))⟩, ⟨(some 16), none, .mov (.reg 25)⟩])))))))))))))))))
  (.cond (.reg 16)
  (.seq (.ops [⟨(some 4), none, .mov (.const (.int .i64 1))⟩])
  .ret)
  (.seq (.ops [⟨(some 27), none, .eqv false (.one .int) (.reg 6) (.const (.int .i64 18))⟩, ⟨(some 26), none, .mov (.reg 27)⟩])
  (.cond (.reg 26)
  (.seq (.ops [⟨(some 28), none, .addOff (.reg 2) 4⟩, ⟨(some 29), none, .load false 1 (.reg 28)⟩, ⟨(some 30), none, .addOff (.reg 3) 1⟩, ⟨(some 31), none, .load false 1 (.reg 30)⟩, ⟨(some 32), none, .idxS 2 (.reg 29) (.reg 31)⟩, ⟨(some 33), none, .addOff (.reg 32) 1⟩, ⟨(some 34), none, .load false 1 (.reg 33)⟩, ⟨(some 4), none, .mov (.reg 34)⟩])
  .ret)
  (.seq (.ops [⟨(some 36), none, .eqv false (.one .int) (.reg 6) (.const (.int .i64 8))⟩, ⟨(some 35), none, .mov (.reg 36)⟩])
  (.cond (.reg 35)
  (.seq (.ops [⟨(some 4), none, .mov (.const (.int .i64 (-3)))⟩])
  .ret)
  (.seq (.ops [⟨(some 38), none, .eqv false (.one .int) (.reg 6) (.const (.int .i64 34))⟩, ⟨(some 37), none, .mov (.reg 38)⟩])
  (.cond (.reg 37)
  (.seq (.ops [⟨(some 4), none, .mov (.const (.int .i64 (-2)))⟩])
  .ret)
  .skip))))))))))))
  (.seq (.ops [⟨(some 4), none, .mov (.const (.int .i64 0))⟩])
  .ret)))⟩
theorem c160 : EL.fns 160 = some F160 := fns_of Tryz.func160 (by kernel_rfl) (by kernel_rfl)

/-- hearth/hearthref10.pushes -/
def F161 : IFun := ⟨10, [.tmp 2], (.seq (.ops [⟨(some 2), none, .mov (.const (.bool false))⟩])
  (.seq (.seq (.ops [⟨(some 3), none, .mov (.reg 0)⟩])
  (.block 0 (.seq (.seq (.ops [⟨(some 5), none, .eqv false (.one .int) (.reg 3) (.const (.int .i64 9))⟩, ⟨(some 4), none, .mov (.reg 5)⟩])
  (.cond (.reg 4)
  .skip
  (.seq (.ops [⟨(some 6), none, .eqv false (.one .int) (.reg 3) (.const (.int .i64 10))⟩, ⟨(some 4), none, .mov (.reg 6)⟩])
  (.cond (.reg 4)
  .skip
  (.seq (.ops [⟨(some 7), none, .eqv false (.one .int) (.reg 3) (.const (.int .i64 11))⟩, ⟨(some 4), none, .mov (.reg 7)⟩])
  (.cond (.reg 4)
  .skip
  (.seq (.ops [⟨(some 8), none, .eqv false (.one .int) (.reg 3) (.const (.int .i64 12))⟩, ⟨(some 4), none, .mov (.reg 8)⟩])
  (.cond (.reg 4)
  .skip
  (.ops [⟨(some 9), none, .eqv false (.one .int) (.reg 3) (.const (.int .i64 19))⟩, ⟨(some 4), none, .mov (.reg 9)⟩])))))))))
  (.cond (.reg 4)
  (.seq (.ops [⟨(some 2), none, .mov (.const (.bool false))⟩])
  .ret)
  .skip))))
  (.seq (.ops [⟨(some 2), none, .mov (.const (.bool true))⟩])
  .ret)))⟩
theorem c161 : EL.fns 161 = some F161 := fns_of Tryz.func161 (by kernel_rfl) (by kernel_rfl)

/-- hearth/code.Check -/
def F162 : IFun := ⟨56, [.tmp 2], (.seq (.ops [⟨(some 1), none, .box (.reg 0)⟩, ⟨(some 2), none, .mov (.const (.int .i64 0))⟩])
  (.seq (.ops [⟨(some 4), none, .addOff (.reg 1) 0⟩, ⟨(some 5), none, .load false 1 (.reg 4)⟩, ⟨(some 6), none, .len .slice (.reg 5)⟩, ⟨(some 3), none, .alloc (.int .i64 0)⟩, ⟨none, none, .store 1 (.reg 3) (.reg 6)⟩])
  (.seq (.seq (.ops [⟨(some 7), none, .load false 1 (.reg 3)⟩, ⟨(some 8), none, .call (.const (.func (.func 179) [] [])) [(.reg 7), (.const (.int .i64 1)), (.const (.int .i64 1500))]⟩, ⟨(some 9), none, .un .not (.reg 8)⟩, ⟨(some 10), none, .mov (.reg 9)⟩, ⟨(some 11), (some ((some 10), false)), .addOff (.reg 1) 1⟩, ⟨(some 12), (some ((some 10), false)), .load false 1 (.reg 11)⟩, ⟨(some 13), (some ((some 10), false)), .len .slice (.reg 12)⟩, ⟨(some 14), (some ((some 10), false)), .bin .gtr (.reg 13) (.const (.int .i64 100))⟩, ⟨(some 15), none, .pick (.reg 10) (.const (.bool true)) (.reg 14)⟩, ⟨(some 16), none, .mov (.reg 15)⟩, ⟨(some 17), (some ((some 16), false)), .addOff (.reg 1) 4⟩, ⟨(some 18), (some ((some 16), false)), .load false 1 (.reg 17)⟩, ⟨(some 19), (some ((some 16), false)), .call (.const (.func (.func 180) [] [])) [(.reg 18)]⟩, ⟨(some 20), (some ((some 16), false)), .un .not (.reg 19)⟩, ⟨(some 21), none, .pick (.reg 16) (.const (.bool true)) (.reg 20)⟩, ⟨(some 22), none, .mov (.reg 21)⟩, ⟨(some 23), (some ((some 22), false)), .addOff (.reg 1) 2⟩, ⟨(some 24), (some ((some 22), false)), .load false 1 (.reg 23)⟩, ⟨(some 25), (some ((some 22), false)), .len .slice (.reg 24)⟩, ⟨(some 26), (some ((some 22), false)), .call (.const (.func (.func 179) [] [])) [(.reg 25), (.const (.int .i64 1)), (.const (.int .i64 300))]⟩, ⟨(some 27), (some ((some 22), false)), .un .not (.reg 26)⟩, ⟨(some 28), none, .pick (.reg 22) (.const (.bool true)) (.reg 27)⟩, ⟨(some 29), none, .mov (.reg 28)⟩, ⟨(some 30), (some ((some 29), false)), .addOff (.reg 1) 3⟩, ⟨(some 31), (some ((some 29), false)), .load false 1 (.reg 30)⟩, ⟨(some 32), (some ((some 29), false)), .addOff (.reg 1) 2⟩, ⟨(some 33), (some ((some 29), false)), .load false 1 (.reg 32)⟩, ⟨(some 34), (some ((some 29), false)), .len .slice (.reg 33)⟩, ⟨(some 35), (some ((some 29), false)), .bin .sub (.reg 34) (.const (.int .i64 1))⟩, ⟨(some 36), (some ((some 29), false)), .call (.const (.func (.func 179) [] [])) [(.reg 31), (.const (.int .i64 0)), (.reg 35)]⟩, ⟨(some 37), (some ((some 29), false)), .un .not (.reg 36)⟩, ⟨(some 38), none, .pick (.reg 29) (.const (.bool true)) (.reg 37)⟩])
  (.cond (.reg 38)
  (.seq (.ops [⟨(some 2), none, .mov (.const (.int .i64 2))⟩])
  .ret)
  .skip))
  (.seq (.seq (.ops [⟨(some 39), none, .addOff (.reg 1) 2⟩, ⟨(some 40), none, .load false 1 (.reg 39)⟩, ⟨(some 41), none, .mkFunc (.func 181) [] [(.reg 3)]⟩, ⟨(some 42), none, .call (.const (.func (.func 165) [] [])) [(.reg 40), (.reg 41)]⟩, ⟨(some 43), none, .un .not (.reg 42)⟩, ⟨(some 44), none, .mov (.reg 43)⟩, ⟨(some 45), (some ((some 44), false)), .addOff (.reg 1) 1⟩, ⟨(some 46), (some ((some 44), false)), .load false 1 (.reg 45)⟩, ⟨(some 47), (some ((some 44), false)), .mkFunc (.func 183) [] [(.reg 1)]⟩, ⟨(some 48), (some ((some 44), false)), .call (.const (.func (.func 182) [] [])) [(.reg 46), (.reg 47)]⟩, ⟨(some 49), (some ((some 44), false)), .un .not (.reg 48)⟩, ⟨(some 50), none, .pick (.reg 44) (.const (.bool true)) (.reg 49)⟩])
  (.cond (.reg 50)
  (.seq (.ops [⟨(some 2), none, .mov (.const (.int .i64 2))⟩])
  .ret)
  .skip))
  (.seq (.seq (.ops [⟨(some 51), none, .addOff (.reg 1) 0⟩, ⟨(some 52), none, .load false 1 (.reg 51)⟩, ⟨(some 53), none, .mkFunc (.func 187) [] [(.reg 1)]⟩, ⟨(some 54), none, .call (.const (.func (.func 186) [] [])) [(.reg 52), (.reg 53)]⟩, ⟨(some 55), none, .un .not (.reg 54)⟩])
  (.cond (.reg 55)
  (.seq (.ops [⟨(some 2), none, .mov (.const (.int .i64 2))⟩])
  .ret)
  .skip))
  (.seq (.ops [⟨(some 2), none, .mov (.const (.int .i64 0))⟩])
  .ret))))))⟩
theorem c162 : EL.fns 162 = some F162 := fns_of Tryz.func162 (by kernel_rfl) (by kernel_rfl)

/-- hearth/code.Depths$1 -/
def F163 : IFun := ⟨63, [.tmp 7], (.seq (.ops [⟨(some 6), none, .box (.reg 1)⟩, ⟨(some 7), none, .mov (.const (.bool false))⟩])
  (.seq (.seq (.draw [[], [(⟨(some 8), none, .mov (.reg 0)⟩, []), (⟨(some 9), none, .load false 1 (.reg 2)⟩, []), (⟨(some 10), none, .len .slice (.reg 9)⟩, [1])], [(⟨(some 11), none, .bin .geq (.reg 8) (.reg 10)⟩, [])], [(⟨(some 12), none, .mov (.reg 11)⟩, [])], [(⟨(some 13), (some ((some 12), false)), .addOff (.reg 6) 1⟩, [])], [(⟨(some 14), (some ((some 12), false)), .load false 1 (.reg 13)⟩, [])], [(⟨(some 15), (some ((some 12), false)), .bin .gtr (.reg 14) (.const (.int .i64 60))⟩, [])], [(⟨(some 16), none, .pick (.reg 12) (.const (.bool true)) (.reg 15)⟩, [])], [(⟨(some 17), none, .mov (.reg 16)⟩, [])], [(⟨(some 18), (some ((some 17), false)), .addOff (.reg 6) 2⟩, [])], [(⟨(some 19), (some ((some 17), false)), .load false 1 (.reg 18)⟩, [])], [(⟨(some 20), (some ((some 17), false)), .bin .gtr (.reg 19) (.const (.int .i64 30))⟩, [])], [(⟨(some 21), none, .pick (.reg 17) (.const (.bool true)) (.reg 20)⟩, [])], [(⟨(some 22), none, .mov (.reg 21)⟩, [])], [(⟨(some 23), (some ((some 22), false)), .load false 1 (.reg 2)⟩, []), (⟨(some 24), (some ((some 22), false)), .mov (.reg 0)⟩, [])], [(⟨(some 25), (some ((some 22), false)), .idxS 3 (.reg 23) (.reg 24)⟩, [])], [(⟨(some 26), (some ((some 22), false)), .addOff (.reg 25) 0⟩, [])], [(⟨(some 27), (some ((some 22), false)), .load false 1 (.reg 26)⟩, [])], [(⟨(some 28), (some ((some 22), false)), .mov (.reg 27)⟩, [])], [(⟨(some 29), (some ((some 28), true)), .load false 1 (.reg 2)⟩, []), (⟨(some 30), (some ((some 28), true)), .mov (.reg 0)⟩, []), (⟨(some 31), (some ((some 28), true)), .idxS 3 (.reg 29) (.reg 30)⟩, [0, 1]), (⟨(some 32), (some ((some 28), true)), .load true 3 (.reg 31)⟩, [0, 1, 2]), (⟨(some 33), (some ((some 28), true)), .load true 3 (.reg 6)⟩, [])], [(⟨(some 34), (some ((some 28), true)), .eqv true (.many [.bool, .int, .int]) (.reg 32) (.reg 33)⟩, [])], [(⟨(some 35), (some ((some 22), false)), .pick (.reg 28) (.reg 34) (.const (.bool false))⟩, [])], [(⟨(some 36), none, .pick (.reg 22) (.const (.bool true)) (.reg 35)⟩, [])], [(⟨(some 37), none, .mov (.reg 36)⟩, [])], [(⟨(some 38), (some ((some 37), false)), .load true 5 (.reg 3)⟩, []), (⟨(some 39), (some ((some 37), false)), .addOff (.reg 3) 0⟩, []), (⟨(some 40), (some ((some 37), false)), .load false 1 (.reg 39)⟩, [1]), (⟨(some 41), (some ((some 37), false)), .mov (.reg 0)⟩, []), (⟨(some 42), (some ((some 37), false)), .idxS 3 (.reg 40) (.reg 41)⟩, [1, 2, 3]), (⟨(some 43), (some ((some 37), false)), .load true 3 (.reg 42)⟩, [1, 2, 3, 4]), (⟨(some 44), (some ((some 37), false)), .call (.const (.func (.func 164) [] [])) [(.reg 38), (.reg 43)]⟩, [0, 1, 2, 3, 4, 5]), (⟨(some 45), (some ((some 37), false)), .load true 3 (.reg 6)⟩, [])], [(⟨(some 46), (some ((some 37), false)), .invoke (.reg 44) "hearth/code.met" [(.reg 45)]⟩, [])], [(⟨(some 47), (some ((some 37), false)), .un .not (.reg 46)⟩, [])], [(⟨(some 48), none, .pick (.reg 37) (.const (.bool true)) (.reg 47)⟩, [])]])
  (.cond (.reg 48)
  (.seq (.ops [⟨(some 7), none, .mov (.const (.bool false))⟩])
  .ret)
  .skip))
  (.seq (.seq (.ops [⟨(some 49), none, .load false 1 (.reg 2)⟩, ⟨(some 50), none, .mov (.reg 0)⟩, ⟨(some 51), none, .idxS 3 (.reg 49) (.reg 50)⟩, ⟨(some 52), none, .addOff (.reg 51) 0⟩, ⟨(some 53), none, .load false 1 (.reg 52)⟩, ⟨(some 54), none, .un .not (.reg 53)⟩])
  (.cond (.reg 54)
  (.seq (.ops [⟨(some 55), none, .load false 1 (.reg 2)⟩, ⟨(some 56), none, .mov (.reg 0)⟩, ⟨(some 57), none, .load true 3 (.reg 6)⟩, ⟨(some 58), none, .idxS 3 (.reg 55) (.reg 56)⟩, ⟨none, none, .store 3 (.reg 58) (.reg 57)⟩])
  (.ops [⟨(some 59), none, .load false 1 (.reg 4)⟩, ⟨(some 60), none, .mov (.reg 0)⟩, ⟨(some 61), none, .buildSlice 1 (.int .i64 0) 1 [(0, (.reg 60))]⟩, ⟨(some 62), none, .append 1 8 (.reg 59) (.reg 61)⟩, ⟨none, none, .store 1 (.reg 4) (.reg 62)⟩]))
  .skip))
  (.seq (.ops [⟨(some 7), none, .mov (.const (.bool true))⟩])
  .ret))))⟩
theorem c163 : EL.fns 163 = some F163 := fns_of Tryz.func163 (by kernel_rfl) (by kernel_rfl)

/-- hearth/code.wanted -/
def F164 : IFun := ⟨64, [.tmp 4], (.seq (.ops [⟨(some 2), none, .box (.reg 0)⟩, ⟨(some 3), none, .box (.reg 1)⟩, ⟨(some 4), none, .mov (.const .nili)⟩])
  (.seq (.seq (.ops [⟨(some 5), none, .addOff (.reg 3) 0⟩, ⟨(some 6), none, .load false 1 (.reg 5)⟩])
  (.block 0 (.seq (.ops [⟨(some 8), none, .eqv false (.one .int) (.reg 6) (.const (.int .i64 4))⟩, ⟨(some 7), none, .mov (.reg 8)⟩])
  (.cond (.reg 7)
  (.seq (.ops [⟨(some 9), none, .addOff (.reg 3) 1⟩, ⟨(some 10), none, .load false 1 (.reg 9)⟩, ⟨(some 11), none, .bin .add (.reg 10) (.const (.int .i64 1))⟩, ⟨(some 12), none, .build [(.int .i64 0)] [(0, 1, (.reg 11))]⟩, ⟨(some 13), none, .mkIface 265 (.reg 12)⟩, ⟨(some 4), none, .mov (.reg 13)⟩])
  .ret)
  (.seq (.ops [⟨(some 15), none, .eqv false (.one .int) (.reg 6) (.const (.int .i64 10))⟩, ⟨(some 14), none, .mov (.reg 15)⟩])
  (.cond (.reg 14)
  (.seq (.ops [⟨(some 16), none, .addOff (.reg 3) 1⟩, ⟨(some 17), none, .load false 1 (.reg 16)⟩, ⟨(some 18), none, .build [(.int .i64 0)] [(0, 1, (.reg 17))]⟩, ⟨(some 19), none, .mkIface 265 (.reg 18)⟩, ⟨(some 4), none, .mov (.reg 19)⟩])
  .ret)
  (.seq (.seq (.ops [⟨(some 21), none, .eqv false (.one .int) (.reg 6) (.const (.int .i64 7))⟩, ⟨(some 20), none, .mov (.reg 21)⟩])
  (.cond (.reg 20)
  .skip
  (.seq (.ops [⟨(some 22), none, .eqv false (.one .int) (.reg 6) (.const (.int .i64 13))⟩, ⟨(some 20), none, .mov (.reg 22)⟩])
  (.cond (.reg 20)
  .skip
  (.seq (.ops [⟨(some 23), none, .eqv false (.one .int) (.reg 6) (.const (.int .i64 14))⟩, ⟨(some 20), none, .mov (.reg 23)⟩])
  (.cond (.reg 20)
  .skip
  (.seq (.ops [⟨(some 24), none, .eqv false (.one .int) (.reg 6) (.const (.int .i64 15))⟩, ⟨(some 20), none, .mov (.reg 24)⟩])
  (.cond (.reg 20)
  .skip
  (.seq (.ops [⟨(some 25), none, .eqv false (.one .int) (.reg 6) (.const (.int .i64 16))⟩, ⟨(some 20), none, .mov (.reg 25)⟩])
  (.cond (.reg 20)
  .skip
  (.seq (.ops [⟨(some 26), none, .eqv false (.one .int) (.reg 6) (.const (.int .i64 17))⟩, ⟨(some 20), none, .mov (.reg 26)⟩])
  (.cond (.reg 20)
  .skip
  (.seq (.ops [⟨(some 27), none, .eqv false (.one .int) (.reg 6) (.const (.int .i64 23))⟩, ⟨(some 20), none, .mov (.reg 27)⟩])
  (.cond (.reg 20)
  .skip
  (.ops [⟨(some 28), none, .eqv false (.one .int) (.reg 6) (.const (.int .i64 27))⟩, ⟨(some 20), none, .mov (.reg 28)⟩])))))))))))))))
  (.cond (.reg 20)
  (.seq (.ops [⟨(some 29), none, .build [(.int .i64 0)] [(0, 1, (.const (.int .i64 2)))]⟩, ⟨(some 30), none, .mkIface 267 (.reg 29)⟩, ⟨(some 4), none, .mov (.reg 30)⟩])
  .ret)
  (.seq (.ops [⟨(some 32), none, .eqv false (.one .int) (.reg 6) (.const (.int .i64 8))⟩, ⟨(some 31), none, .mov (.reg 32)⟩])
  (.cond (.reg 31)
  (.seq (.ops [⟨(some 33), none, .build [(.int .i64 0)] [(0, 1, (.const (.int .i64 2)))]⟩, ⟨(some 34), none, .mkIface 268 (.reg 33)⟩, ⟨(some 4), none, .mov (.reg 34)⟩])
  .ret)
  (.seq (.ops [⟨(some 36), none, .eqv false (.one .int) (.reg 6) (.const (.int .i64 34))⟩, ⟨(some 35), none, .mov (.reg 36)⟩])
  (.cond (.reg 35)
  (.seq (.ops [⟨(some 37), none, .build [(.int .i64 0)] [(0, 1, (.const (.int .i64 1)))]⟩, ⟨(some 38), none, .mkIface 268 (.reg 37)⟩, ⟨(some 4), none, .mov (.reg 38)⟩])
  .ret)
  (.seq (.seq (.ops [⟨(some 40), none, .eqv false (.one .int) (.reg 6) (.const (.int .i64 9))⟩, ⟨(some 39), none, .mov (.reg 40)⟩])
  (.cond (.reg 39)
  .skip
  (.seq (.ops [⟨(some 41), none, .eqv false (.one .int) (.reg 6) (.const (.int .i64 12))⟩, ⟨(some 39), none, .mov (.reg 41)⟩])
  (.cond (.reg 39)
  .skip
  (.seq (.ops [⟨(some 42), none, .eqv false (.one .int) (.reg 6) (.const (.int .i64 19))⟩, ⟨(some 39), none, .mov (.reg 42)⟩])
  (.cond (.reg 39)
  .skip
  (.seq (.ops [⟨(some 43), none, .eqv false (.one .int) (.reg 6) (.const (.int .i64 21))⟩, ⟨(some 39), none, .mov (.reg 43)⟩])
  (.cond (.reg 39)
  .skip
  (.seq (.ops [⟨(some 44), none, .eqv false (.one .int) (.reg 6) (.const (.int .i64 22))⟩, ⟨(some 39), none, .mov (.reg 44)⟩])
  (.cond (.reg 39)
  .skip
  (.seq (.ops [⟨(some 45), none, .eqv false (.one .int) (.reg 6) (.const (.int .i64 24))⟩, ⟨(some 39), none, .mov (.reg 45)⟩])
  (.cond (.reg 39)
  .skip
  (.seq (.ops [⟨(some 46), none, .eqv false (.one .int) (.reg 6) (.const (.int .i64 25))⟩, ⟨(some 39), none, .mov (.reg 46)⟩])
  (.cond (.reg 39)
  .skip
  (.seq (.ops [⟨(some 47), none, .eqv false (.one .int) (.reg 6) (.const (.int .i64 28))⟩, ⟨(some 39), none, .mov (.reg 47)⟩])
  (.cond (.reg 39)
  .skip
  (.ops [⟨(some 48), none, .eqv false (.one .int) (.reg 6) (.const (.int .i64 29))⟩, ⟨(some 39), none, .mov (.reg 48)⟩])))))))))))))))))
  (.cond (.reg 39)
  (.seq (.ops [⟨(some 49), none, .build [(.int .i64 0)] [(0, 1, (.const (.int .i64 1)))]⟩, ⟨(some 50), none, .mkIface 267 (.reg 49)⟩, ⟨(some 4), none, .mov (.reg 50)⟩])
  .ret)
  (.seq (.ops [⟨(some 52), none, .eqv false (.one .int) (.reg 6) (.const (.int .i64 18))⟩, ⟨(some 51), none, .mov (.reg 52)⟩])
  (.cond (.reg 51)
  (.seq (.ops [⟨(some 53), none, .addOff (.reg 2) 4⟩, ⟨(some 54), none, .load false 1 (.reg 53)⟩, ⟨(some 55), none, .addOff (.reg 3) 1⟩, ⟨(some 56), none, .load false 1 (.reg 55)⟩, ⟨(some 57), none, .idxS 2 (.reg 54) (.reg 56)⟩, ⟨(some 58), none, .addOff (.reg 57) 1⟩, ⟨(some 59), none, .load false 1 (.reg 58)⟩, ⟨(some 60), none, .build [(.int .i64 0)] [(0, 1, (.reg 59))]⟩, ⟨(some 61), none, .mkIface 267 (.reg 60)⟩, ⟨(some 4), none, .mov (.reg 61)⟩])
  .ret)
  .skip))))))))))))))))
  (.seq (.ops [⟨(some 62), none, .build [(.int .i64 0)] [(0, 1, (.const (.int .i64 0)))]⟩, ⟨(some 63), none, .mkIface 267 (.reg 62)⟩, ⟨(some 4), none, .mov (.reg 63)⟩])
  .ret)))⟩
theorem c164 : EL.fns 164 = some F164 := fns_of Tryz.func164 (by kernel_rfl) (by kernel_rfl)

/-- hearth/code.all[int] -/
def F165 : IFun := ⟨9, [.tmp 4], (.seq (.ops [⟨(some 3), none, .box (.reg 1)⟩, ⟨(some 4), none, .mov (.const (.bool false))⟩])
  (.seq (.ops [⟨(some 5), none, .mov (.reg 0)⟩, ⟨(some 6), none, .mkFunc (.func 189) [] [(.reg 3)]⟩, ⟨(some 7), none, .call (.const (.func (.func 48) [] [])) [(.reg 5), (.reg 6)]⟩, ⟨(some 8), none, .un .not (.reg 7)⟩, ⟨(some 4), none, .mov (.reg 8)⟩])
  .ret))⟩
theorem c165 : EL.fns 165 = some F165 := fns_of Tryz.func165 (by kernel_rfl) (by kernel_rfl)

/-- hearth/code.Depths$2 -/
def F166 : IFun := ⟨8, [.tmp 3], (.seq (.ops [⟨(some 3), none, .mov (.const (.bool false))⟩])
  (.seq (.draw [[], [(⟨(some 4), none, .load false 1 (.reg 1)⟩, []), (⟨(some 5), none, .mov (.reg 0)⟩, []), (⟨(some 6), none, .call (.const (.func (.func 167) [] [])) [(.const (.int .i64 0)), (.const (.int .i64 1))]⟩, [])], [(⟨(some 7), none, .call (.reg 4) [(.reg 5), (.reg 6)]⟩, [])], [(⟨(some 3), none, .mov (.reg 7)⟩, [])]])
  .ret))⟩
theorem c166 : EL.fns 166 = some F166 := fns_of Tryz.func166 (by kernel_rfl) (by kernel_rfl)

/-- hearth/code.depth -/
def F167 : IFun := ⟨8, [.cell 4 true 3], (.seq (.ops [⟨(some 4), none, .alloc (.agg [(.bool false), (.int .i64 0), (.int .i64 0)])⟩])
  (.seq (.ops [⟨(some 5), none, .mov (.reg 0)⟩, ⟨(some 6), none, .mov (.reg 1)⟩, ⟨(some 7), none, .build [(.bool false), (.int .i64 0), (.int .i64 0)] [(0, 1, (.const (.bool true))), (1, 1, (.reg 5)), (2, 1, (.reg 6))]⟩, ⟨none, none, .store 3 (.reg 4) (.reg 7)⟩])
  .ret))⟩
theorem c167 : EL.fns 167 = some F167 := fns_of Tryz.func167 (by kernel_rfl) (by kernel_rfl)

/-- hearth/code.follows -/
def F168 : IFun := ⟨14, [.tmp 6], (.seq (.ops [⟨(some 3), none, .box (.reg 0)⟩, ⟨(some 4), none, .box (.reg 1)⟩, ⟨(some 5), none, .box (.reg 2)⟩, ⟨(some 6), none, .mov (.const .nilf)⟩])
  (.seq (.ops [⟨(some 8), none, .addOff (.reg 3) 0⟩, ⟨(some 9), none, .load false 1 (.reg 8)⟩, ⟨(some 10), none, .load false 1 (.reg 4)⟩, ⟨(some 11), none, .idxS 3 (.reg 9) (.reg 10)⟩, ⟨(some 12), none, .load true 3 (.reg 11)⟩, ⟨(some 7), none, .alloc (.agg [(.int .i64 0), (.int .i64 0), (.int .i64 0)])⟩, ⟨none, none, .store 3 (.reg 7) (.reg 12)⟩])
  (.seq (.ops [⟨(some 13), none, .mkFunc (.func 190) [] [(.reg 3), (.reg 7), (.reg 5), (.reg 4)]⟩, ⟨(some 6), none, .mov (.reg 13)⟩])
  .ret)))⟩
theorem c168 : EL.fns 168 = some F168 := fns_of Tryz.func168 (by kernel_rfl) (by kernel_rfl)

/-- hearth/live.names -/
def F169 : IFun := ⟨22, [.tmp 2], (.seq (.ops [⟨(some 1), none, .box (.reg 0)⟩, ⟨(some 2), none, .mov (.const (.int .i64 0))⟩])
  (.seq (.ops [⟨(some 3), none, .mov (.const (.int .i64 0))⟩])
  (.seq (.seq (.ops [⟨(some 6), none, .addOff (.reg 1) 0⟩, ⟨(some 7), none, .load false 1 (.reg 6)⟩, ⟨(some 8), none, .eqv false (.one .int) (.reg 7) (.const (.int .i64 2))⟩])
  (.cond (.reg 8)
  (.ops [⟨(some 3), none, .mov (.const (.int .i64 1))⟩])
  .skip))
  (.seq (.seq (.ops [⟨(some 9), none, .addOff (.reg 1) 3⟩, ⟨(some 10), none, .load false 1 (.reg 9)⟩, ⟨(some 11), none, .len .slice (.reg 10)⟩, ⟨(some 12), none, .mov (.const (.int .i64 0))⟩])
  (.block 0 (.loop
  (.seq (.ops [⟨(some 13), none, .bin .lss (.reg 12) (.reg 11)⟩])
  (.seq (.cond (.reg 13)
  .skip
  (.exit 0))
  (.seq (.block 1 (.seq (.ops [⟨(some 14), none, .idxS 4 (.reg 10) (.reg 12)⟩, ⟨(some 15), none, .load true 4 (.reg 14)⟩, ⟨(some 5), none, .alloc (.agg [(.int .i64 0), (.int .i64 0), (.str ⟨#[]⟩), (.frz [] true)])⟩, ⟨none, none, .store 4 (.reg 5) (.reg 15)⟩])
  (.ops [⟨(some 16), none, .mov (.reg 3)⟩, ⟨(some 17), none, .load true 4 (.reg 5)⟩, ⟨(some 18), none, .call (.const (.func (.func 169) [] [])) [(.reg 17)]⟩, ⟨(some 19), none, .bin .add (.reg 16) (.reg 18)⟩, ⟨(some 3), none, .mov (.reg 19)⟩])))
  (.ops [⟨(some 20), none, .bin .add (.reg 12) (.const (.int .i64 1))⟩, ⟨(some 12), none, .mov (.reg 20)⟩])))))))
  (.seq (.ops [⟨(some 21), none, .mov (.reg 3)⟩, ⟨(some 2), none, .mov (.reg 21)⟩])
  .ret)))))⟩
theorem c169 : EL.fns 169 = some F169 := fns_of Tryz.func169 (by kernel_rfl) (by kernel_rfl)

/-- hearth/hearthref01.Great -/
def F176 : IFun := ⟨26, [.tmp 2], (.seq (.ops [⟨(some 2), none, .mov (.const (.bool false))⟩])
  (.seq (.ops [⟨(some 3), none, .mov (.reg 0)⟩, ⟨(some 4), none, .len .str (.reg 3)⟩, ⟨(some 5), none, .bin .geq (.reg 4) (.const (.int .i64 1))⟩, ⟨(some 6), none, .mov (.reg 5)⟩, ⟨(some 7), (some ((some 6), true)), .mov (.reg 0)⟩, ⟨(some 8), (some ((some 6), true)), .len .str (.reg 7)⟩, ⟨(some 9), (some ((some 6), true)), .bin .leq (.reg 8) (.const (.int .i64 8))⟩, ⟨(some 10), none, .pick (.reg 6) (.reg 9) (.const (.bool false))⟩, ⟨(some 11), none, .mov (.reg 10)⟩, ⟨(some 12), (some ((some 11), true)), .mov (.reg 0)⟩, ⟨(some 13), (some ((some 11), true)), .idxStr (.reg 12) (.const (.int .i64 0))⟩, ⟨(some 14), (some ((some 11), true)), .bin .geq (.reg 13) (.const (.int .u8 65))⟩, ⟨(some 15), none, .pick (.reg 11) (.reg 14) (.const (.bool false))⟩, ⟨(some 16), none, .mov (.reg 15)⟩, ⟨(some 17), (some ((some 16), true)), .mov (.reg 0)⟩, ⟨(some 18), (some ((some 16), true)), .idxStr (.reg 17) (.const (.int .i64 0))⟩, ⟨(some 19), (some ((some 16), true)), .bin .leq (.reg 18) (.const (.int .u8 90))⟩, ⟨(some 20), none, .pick (.reg 16) (.reg 19) (.const (.bool false))⟩, ⟨(some 21), none, .mov (.reg 20)⟩, ⟨(some 22), (some ((some 21), true)), .mov (.reg 0)⟩, ⟨(some 23), (some ((some 21), true)), .sliceStr (.reg 22) (some (.const (.int .i64 1))) none⟩, ⟨(some 24), (some ((some 21), true)), .call (.const (.func (.func 195) [] [])) [(.reg 23)]⟩, ⟨(some 25), none, .pick (.reg 21) (.reg 24) (.const (.bool false))⟩, ⟨(some 2), none, .mov (.reg 25)⟩])
  .ret))⟩
theorem c176 : EL.fns 176 = some F176 := fns_of Tryz.func176 (by kernel_rfl) (by kernel_rfl)

/-- hearth/hearthref05.in -/
def F177 : IFun := ⟨15, [.tmp 6], (.seq (.ops [⟨(some 6), none, .mov (.const (.bool false))⟩])
  (.seq (.ops [⟨(some 7), none, .mov (.reg 0)⟩, ⟨(some 8), none, .mov (.reg 1)⟩, ⟨(some 9), none, .bin .geq (.reg 7) (.reg 8)⟩, ⟨(some 10), none, .mov (.reg 9)⟩, ⟨(some 11), (some ((some 10), true)), .mov (.reg 0)⟩, ⟨(some 12), (some ((some 10), true)), .mov (.reg 2)⟩, ⟨(some 13), (some ((some 10), true)), .bin .leq (.reg 11) (.reg 12)⟩, ⟨(some 14), none, .pick (.reg 10) (.reg 13) (.const (.bool false))⟩, ⟨(some 6), none, .mov (.reg 14)⟩])
  .ret))⟩
theorem c177 : EL.fns 177 = some F177 := fns_of Tryz.func177 (by kernel_rfl) (by kernel_rfl)

/-- hearth/hearthref01.Differ -/
def F178 : IFun := ⟨18, [.tmp 2], (.seq (.ops [⟨(some 2), none, .mov (.const (.bool false))⟩])
  (.seq (.seq (.ops [⟨(some 3), none, .mov (.const (.int .i64 0))⟩])
  (.block 0 (.loop
  (.seq (.seq (.ops [⟨(some 4), none, .mov (.reg 3)⟩, ⟨(some 5), none, .mov (.reg 0)⟩, ⟨(some 6), none, .len .slice (.reg 5)⟩, ⟨(some 7), none, .bin .lss (.reg 4) (.reg 6)⟩])
  (.cond (.reg 7)
  .skip
  (.exit 0)))
  (.seq (.block 1 (.seq (.draw [[], [(⟨(some 10), none, .mov (.reg 0)⟩, []), (⟨(some 11), none, .mov (.reg 3)⟩, []), (⟨(some 12), none, .slice 1 (.reg 10) none (some (.reg 11)) none⟩, [0, 1]), (⟨(some 13), none, .mov (.reg 0)⟩, []), (⟨(some 14), none, .mov (.reg 3)⟩, []), (⟨(some 15), none, .idxS 1 (.reg 13) (.reg 14)⟩, [3, 4]), (⟨(some 16), none, .load false 1 (.reg 15)⟩, [3, 4, 5])], [(⟨(some 17), none, .call (.const (.func (.func 196) [] [])) [(.reg 12), (.reg 16)]⟩, [])]])
  (.cond (.reg 17)
  (.seq (.ops [⟨(some 2), none, .mov (.const (.bool false))⟩])
  .ret)
  .skip)))
  (.ops [⟨(some 8), none, .mov (.reg 3)⟩, ⟨(some 9), none, .bin .add (.reg 8) (.const (.int .i64 1))⟩, ⟨(some 3), none, .mov (.reg 9)⟩]))))))
  (.seq (.ops [⟨(some 2), none, .mov (.const (.bool true))⟩])
  .ret)))⟩
theorem c178 : EL.fns 178 = some F178 := fns_of Tryz.func178 (by kernel_rfl) (by kernel_rfl)

/-- hearth/code.in -/
def F179 : IFun := ⟨15, [.tmp 6], (.seq (.ops [⟨(some 6), none, .mov (.const (.bool false))⟩])
  (.seq (.ops [⟨(some 7), none, .mov (.reg 0)⟩, ⟨(some 8), none, .mov (.reg 1)⟩, ⟨(some 9), none, .bin .geq (.reg 7) (.reg 8)⟩, ⟨(some 10), none, .mov (.reg 9)⟩, ⟨(some 11), (some ((some 10), true)), .mov (.reg 0)⟩, ⟨(some 12), (some ((some 10), true)), .mov (.reg 2)⟩, ⟨(some 13), (some ((some 10), true)), .bin .leq (.reg 11) (.reg 12)⟩, ⟨(some 14), none, .pick (.reg 10) (.reg 13) (.const (.bool false))⟩, ⟨(some 6), none, .mov (.reg 14)⟩])
  .ret))⟩
theorem c179 : EL.fns 179 = some F179 := fns_of Tryz.func179 (by kernel_rfl) (by kernel_rfl)

/-- hearth/code.constructors -/
def F180 : IFun := ⟨13, [.tmp 2], (.seq (.ops [⟨(some 2), none, .mov (.const (.bool false))⟩])
  (.seq (.ops [⟨(some 4), none, .mkMap⟩, ⟨(some 3), none, .alloc .nilm⟩, ⟨none, none, .store 1 (.reg 3) (.reg 4)⟩])
  (.seq (.ops [⟨(some 5), none, .mov (.reg 0)⟩, ⟨(some 6), none, .len .slice (.reg 5)⟩, ⟨(some 7), none, .bin .leq (.reg 6) (.const (.int .i64 20))⟩, ⟨(some 8), none, .mov (.reg 7)⟩, ⟨(some 9), (some ((some 8), true)), .mov (.reg 0)⟩, ⟨(some 10), (some ((some 8), true)), .mkFunc (.func 198) [] [(.reg 3)]⟩, ⟨(some 11), (some ((some 8), true)), .call (.const (.func (.func 197) [] [])) [(.reg 9), (.reg 10)]⟩, ⟨(some 12), none, .pick (.reg 8) (.reg 11) (.const (.bool false))⟩, ⟨(some 2), none, .mov (.reg 12)⟩])
  .ret)))⟩
theorem c180 : EL.fns 180 = some F180 := fns_of Tryz.func180 (by kernel_rfl) (by kernel_rfl)

/-- hearth/code.Check$1 -/
def F181 : IFun := ⟨8, [.tmp 3], (.seq (.ops [⟨(some 3), none, .mov (.const (.bool false))⟩])
  (.seq (.ops [⟨(some 4), none, .mov (.reg 0)⟩, ⟨(some 5), none, .load false 1 (.reg 1)⟩, ⟨(some 6), none, .bin .sub (.reg 5) (.const (.int .i64 1))⟩, ⟨(some 7), none, .call (.const (.func (.func 179) [] [])) [(.reg 4), (.const (.int .i64 0)), (.reg 6)]⟩, ⟨(some 3), none, .mov (.reg 7)⟩])
  .ret))⟩
theorem c181 : EL.fns 181 = some F181 := fns_of Tryz.func181 (by kernel_rfl) (by kernel_rfl)

/-- hearth/code.all[hearth/api.TermPat] -/
def F182 : IFun := ⟨9, [.tmp 4], (.seq (.ops [⟨(some 3), none, .box (.reg 1)⟩, ⟨(some 4), none, .mov (.const (.bool false))⟩])
  (.seq (.ops [⟨(some 5), none, .mov (.reg 0)⟩, ⟨(some 6), none, .mkFunc (.func 201) [] [(.reg 3)]⟩, ⟨(some 7), none, .call (.const (.func (.func 200) [] [])) [(.reg 5), (.reg 6)]⟩, ⟨(some 8), none, .un .not (.reg 7)⟩, ⟨(some 4), none, .mov (.reg 8)⟩])
  .ret))⟩
theorem c182 : EL.fns 182 = some F182 := fns_of Tryz.func182 (by kernel_rfl) (by kernel_rfl)

/-- hearth/code.Check$2 -/
def F183 : IFun := ⟨13, [.tmp 3], (.seq (.ops [⟨(some 2), none, .box (.reg 0)⟩, ⟨(some 3), none, .mov (.const (.bool false))⟩])
  (.seq (.ops [⟨(some 4), none, .load true 4 (.reg 2)⟩, ⟨(some 5), none, .call (.const (.func (.func 184) [] [])) [(.reg 4), (.const (.int .i64 12))]⟩, ⟨(some 6), none, .bin .geq (.reg 5) (.const (.int .i64 0))⟩, ⟨(some 7), none, .mov (.reg 6)⟩, ⟨(some 8), (some ((some 7), true)), .load true 4 (.reg 2)⟩, ⟨(some 9), (some ((some 7), true)), .addOff (.reg 1) 4⟩, ⟨(some 10), (some ((some 7), true)), .load false 1 (.reg 9)⟩, ⟨(some 11), (some ((some 7), true)), .call (.const (.func (.func 185) [] [])) [(.reg 8), (.reg 10)]⟩, ⟨(some 12), none, .pick (.reg 7) (.reg 11) (.const (.bool false))⟩, ⟨(some 3), none, .mov (.reg 12)⟩])
  .ret))⟩
theorem c183 : EL.fns 183 = some F183 := fns_of Tryz.func183 (by kernel_rfl) (by kernel_rfl)

/-- hearth/code.few -/
def F184 : IFun := ⟨23, [.tmp 4], (.seq (.ops [⟨(some 2), none, .box (.reg 0)⟩, ⟨(some 4), none, .mov (.const (.int .i64 0))⟩])
  (.seq (.ops [⟨(some 7), none, .mov (.reg 1)⟩, ⟨(some 8), none, .bin .sub (.reg 7) (.const (.int .i64 1))⟩, ⟨(some 1), none, .mov (.reg 8)⟩])
  (.seq (.seq (.ops [⟨(some 9), none, .addOff (.reg 2) 3⟩, ⟨(some 10), none, .load false 1 (.reg 9)⟩, ⟨(some 11), none, .len .slice (.reg 10)⟩, ⟨(some 12), none, .mov (.const (.int .i64 0))⟩])
  (.block 0 (.loop
  (.seq (.ops [⟨(some 13), none, .bin .lss (.reg 12) (.reg 11)⟩])
  (.seq (.cond (.reg 13)
  .skip
  (.exit 0))
  (.seq (.block 1 (.seq (.ops [⟨(some 14), none, .idxS 4 (.reg 10) (.reg 12)⟩, ⟨(some 15), none, .load true 4 (.reg 14)⟩, ⟨(some 6), none, .alloc (.agg [(.int .i64 0), (.int .i64 0), (.str ⟨#[]⟩), (.frz [] true)])⟩, ⟨none, none, .store 4 (.reg 6) (.reg 15)⟩])
  (.seq (.seq (.ops [⟨(some 16), none, .mov (.reg 1)⟩, ⟨(some 17), none, .bin .lss (.reg 16) (.const (.int .i64 0))⟩])
  (.cond (.reg 17)
  (.exit 0)
  .skip))
  (.ops [⟨(some 18), none, .load true 4 (.reg 6)⟩, ⟨(some 19), none, .mov (.reg 1)⟩, ⟨(some 20), none, .call (.const (.func (.func 184) [] [])) [(.reg 18), (.reg 19)]⟩, ⟨(some 1), none, .mov (.reg 20)⟩]))))
  (.ops [⟨(some 21), none, .bin .add (.reg 12) (.const (.int .i64 1))⟩, ⟨(some 12), none, .mov (.reg 21)⟩])))))))
  (.seq (.ops [⟨(some 22), none, .mov (.reg 1)⟩, ⟨(some 4), none, .mov (.reg 22)⟩])
  .ret))))⟩
theorem c184 : EL.fns 184 = some F184 := fns_of Tryz.func184 (by kernel_rfl) (by kernel_rfl)

def F185b0 : ICode := (.block 0 (.seq (.seq (.ops [⟨(some 9), none, .eqv false (.one .int) (.reg 7) (.const (.int .i64 1))⟩, ⟨(some 8), none, .mov (.reg 9)⟩])
  (.cond (.reg 8)
  .skip
  (.seq (.ops [⟨(some 10), none, .eqv false (.one .int) (.reg 7) (.const (.int .i64 2))⟩, ⟨(some 8), none, .mov (.reg 10)⟩])
  (.cond (.reg 8)
  .skip
  (.ops [⟨(some 11), none, .eqv false (.one .int) (.reg 7) (.const (.int .i64 5))⟩, ⟨(some 8), none, .mov (.reg 11)⟩])))))
  (.cond (.reg 8)
  (.seq (.ops [⟨(some 12), none, .addOff (.reg 2) 1⟩, ⟨(some 13), none, .load false 1 (.reg 12)⟩, ⟨(some 14), none, .eqv true (.one .int) (.reg 13) (.const (.int .i64 0))⟩])
  (.cond (.reg 14)
  (.seq (.ops [⟨(some 4), none, .mov (.const (.bool false))⟩])
  .ret)
  .skip))
  (.seq (.ops [⟨(some 16), none, .eqv false (.one .int) (.reg 7) (.const (.int .i64 3))⟩, ⟨(some 15), none, .mov (.reg 16)⟩])
  (.cond (.reg 15)
  (.seq (.ops [⟨(some 17), none, .addOff (.reg 2) 1⟩, ⟨(some 18), none, .load false 1 (.reg 17)⟩, ⟨(some 19), none, .call (.const (.func (.func 179) [] [])) [(.reg 18), (.const (.int .i64 (-1000000000))), (.const (.int .i64 1000000000))]⟩, ⟨(some 20), none, .un .not (.reg 19)⟩])
  (.cond (.reg 20)
  (.seq (.ops [⟨(some 4), none, .mov (.const (.bool false))⟩])
  .ret)
  .skip))
  (.seq (.ops [⟨(some 22), none, .eqv false (.one .int) (.reg 7) (.const (.int .i64 4))⟩, ⟨(some 21), none, .mov (.reg 22)⟩])
  (.cond (.reg 21)
  (.seq (.ops [⟨(some 23), none, .addOff (.reg 2) 1⟩, ⟨(some 24), none, .load false 1 (.reg 23)⟩, ⟨(some 25), none, .call (.const (.func (.func 179) [] [])) [(.reg 24), (.const (.int .i64 0)), (.const (.int .i64 1))]⟩, ⟨(some 26), none, .un .not (.reg 25)⟩])
  (.cond (.reg 26)
  (.seq (.ops [⟨(some 4), none, .mov (.const (.bool false))⟩])
  .ret)
  .skip))
  (.seq (.ops [⟨(some 28), none, .eqv false (.one .int) (.reg 7) (.const (.int .i64 6))⟩, ⟨(some 27), none, .mov (.reg 28)⟩])
  (.cond (.reg 27)
  (.seq (.seq (.ops [⟨(some 29), none, .addOff (.reg 2) 1⟩, ⟨(some 30), none, .load false 1 (.reg 29)⟩, ⟨(some 31), none, .load false 1 (.reg 3)⟩, ⟨(some 32), none, .len .slice (.reg 31)⟩, ⟨(some 33), none, .bin .sub (.reg 32) (.const (.int .i64 1))⟩, ⟨(some 34), none, .call (.const (.func (.func 179) [] [])) [(.reg 30), (.const (.int .i64 0)), (.reg 33)]⟩, ⟨(some 35), none, .un .not (.reg 34)⟩])
  (.cond (.reg 35)
  (.seq (.ops [⟨(some 4), none, .mov (.const (.bool false))⟩])
  .ret)
  .skip))
  (.ops [⟨(some 36), none, .load false 1 (.reg 3)⟩, ⟨(some 37), none, .addOff (.reg 2) 1⟩, ⟨(some 38), none, .load false 1 (.reg 37)⟩, ⟨(some 39), none, .idxS 2 (.reg 36) (.reg 38)⟩, ⟨(some 40), none, .addOff (.reg 39) 1⟩, ⟨(some 41), none, .load false 1 (.reg 40)⟩, ⟨(some 5), none, .mov (.reg 41)⟩]))
  (.seq (.ops [⟨(some 4), none, .mov (.const (.bool false))⟩])
  .ret))))))))))

/-- hearth/code.pattern -/
def F185 : IFun := ⟨58, [.tmp 4], (.seq (.ops [⟨(some 2), none, .box (.reg 0)⟩, ⟨(some 3), none, .box (.reg 1)⟩, ⟨(some 4), none, .mov (.const (.bool false))⟩])
  (.seq (.ops [⟨(some 5), none, .mov (.const (.int .i64 0))⟩])
  (.seq (.seq (.ops [⟨(some 6), none, .addOff (.reg 2) 0⟩, ⟨(some 7), none, .load false 1 (.reg 6)⟩])
  F185b0)
  (.seq (.ops [⟨(some 42), none, .addOff (.reg 2) 2⟩, ⟨(some 43), none, .load false 1 (.reg 42)⟩, ⟨(some 44), none, .eqv false (.one .str) (.reg 43) (.const (.str ⟨#[]⟩))⟩, ⟨(some 45), none, .mov (.reg 44)⟩, ⟨(some 46), (some ((some 45), true)), .addOff (.reg 2) 3⟩, ⟨(some 47), (some ((some 45), true)), .load false 1 (.reg 46)⟩, ⟨(some 48), (some ((some 45), true)), .len .slice (.reg 47)⟩, ⟨(some 49), (some ((some 45), true)), .mov (.reg 5)⟩, ⟨(some 50), (some ((some 45), true)), .eqv false (.one .int) (.reg 48) (.reg 49)⟩, ⟨(some 51), none, .pick (.reg 45) (.reg 50) (.const (.bool false))⟩, ⟨(some 52), none, .mov (.reg 51)⟩, ⟨(some 53), (some ((some 52), true)), .addOff (.reg 2) 3⟩, ⟨(some 54), (some ((some 52), true)), .load false 1 (.reg 53)⟩, ⟨(some 55), (some ((some 52), true)), .mkFunc (.func 202) [] [(.reg 3)]⟩, ⟨(some 56), (some ((some 52), true)), .call (.const (.func (.func 182) [] [])) [(.reg 54), (.reg 55)]⟩, ⟨(some 57), none, .pick (.reg 52) (.reg 56) (.const (.bool false))⟩, ⟨(some 4), none, .mov (.reg 57)⟩])
  .ret))))⟩
theorem c185 : EL.fns 185 = some F185 := fns_of Tryz.func185 (by kernel_rfl) (by kernel_rfl)

/-- hearth/code.all[hearth/api.CodeIns] -/
def F186 : IFun := ⟨9, [.tmp 4], (.seq (.ops [⟨(some 3), none, .box (.reg 1)⟩, ⟨(some 4), none, .mov (.const (.bool false))⟩])
  (.seq (.ops [⟨(some 5), none, .mov (.reg 0)⟩, ⟨(some 6), none, .mkFunc (.func 204) [] [(.reg 3)]⟩, ⟨(some 7), none, .call (.const (.func (.func 203) [] [])) [(.reg 5), (.reg 6)]⟩, ⟨(some 8), none, .un .not (.reg 7)⟩, ⟨(some 4), none, .mov (.reg 8)⟩])
  .ret))⟩
theorem c186 : EL.fns 186 = some F186 := fns_of Tryz.func186 (by kernel_rfl) (by kernel_rfl)

/-- hearth/code.Check$3 -/
def F187 : IFun := ⟨34, [.tmp 3], (.seq (.ops [⟨(some 2), none, .box (.reg 0)⟩, ⟨(some 3), none, .mov (.const (.bool false))⟩])
  (.seq (.ops [⟨(some 8), none, .load true 5 (.reg 1)⟩, ⟨(some 9), none, .addOff (.reg 2) 0⟩, ⟨(some 10), none, .load false 1 (.reg 9)⟩, ⟨(some 11), none, .call (.const (.func (.func 188) [] [])) [(.reg 8), (.reg 10)]⟩, ⟨(some 7), none, .mov (.reg 11)⟩, ⟨(some 12), none, .extract (.reg 7) 0⟩, ⟨(some 13), none, .extract (.reg 7) 1⟩, ⟨(some 14), none, .extract (.reg 7) 2⟩, ⟨(some 4), none, .alloc (.agg [(.int .i64 0), (.int .i64 0), (.bool false)])⟩, ⟨(some 5), none, .alloc (.agg [(.int .i64 0), (.int .i64 0), (.bool false)])⟩, ⟨none, none, .store 3 (.reg 4) (.reg 12)⟩, ⟨none, none, .store 3 (.reg 5) (.reg 13)⟩, ⟨(some 6), none, .mov (.reg 14)⟩])
  (.seq (.ops [⟨(some 15), none, .mov (.reg 6)⟩, ⟨(some 16), none, .mov (.reg 15)⟩, ⟨(some 17), (some ((some 16), true)), .addOff (.reg 2) 1⟩, ⟨(some 18), (some ((some 16), true)), .load false 1 (.reg 17)⟩, ⟨(some 19), (some ((some 16), true)), .addOff (.reg 4) 0⟩, ⟨(some 20), (some ((some 16), true)), .load false 1 (.reg 19)⟩, ⟨(some 21), (some ((some 16), true)), .addOff (.reg 4) 1⟩, ⟨(some 22), (some ((some 16), true)), .load false 1 (.reg 21)⟩, ⟨(some 23), (some ((some 16), true)), .call (.const (.func (.func 179) [] [])) [(.reg 18), (.reg 20), (.reg 22)]⟩, ⟨(some 24), none, .pick (.reg 16) (.reg 23) (.const (.bool false))⟩, ⟨(some 25), none, .mov (.reg 24)⟩, ⟨(some 26), (some ((some 25), true)), .addOff (.reg 2) 2⟩, ⟨(some 27), (some ((some 25), true)), .load false 1 (.reg 26)⟩, ⟨(some 28), (some ((some 25), true)), .addOff (.reg 5) 0⟩, ⟨(some 29), (some ((some 25), true)), .load false 1 (.reg 28)⟩, ⟨(some 30), (some ((some 25), true)), .addOff (.reg 5) 1⟩, ⟨(some 31), (some ((some 25), true)), .load false 1 (.reg 30)⟩, ⟨(some 32), (some ((some 25), true)), .call (.const (.func (.func 179) [] [])) [(.reg 27), (.reg 29), (.reg 31)]⟩, ⟨(some 33), none, .pick (.reg 25) (.reg 32) (.const (.bool false))⟩, ⟨(some 3), none, .mov (.reg 33)⟩])
  .ret)))⟩
theorem c187 : EL.fns 187 = some F187 := fns_of Tryz.func187 (by kernel_rfl) (by kernel_rfl)

def F188b0 : ICode := (.block 0 (.seq (.ops [⟨(some 15), none, .eqv false (.one .int) (.reg 13) (.const (.int .i64 1))⟩, ⟨(some 14), none, .mov (.reg 15)⟩])
  (.cond (.reg 14)
  (.ops [⟨(some 16), none, .build [(.int .i64 0), (.int .i64 0), (.bool false)] [(0, 1, (.const (.int .i64 (-1000000000)))), (1, 1, (.const (.int .i64 1000000000))), (2, 1, (.const (.bool true)))]⟩, ⟨none, none, .store 3 (.reg 4) (.reg 16)⟩])
  (.seq (.ops [⟨(some 18), none, .eqv false (.one .int) (.reg 13) (.const (.int .i64 2))⟩, ⟨(some 17), none, .mov (.reg 18)⟩])
  (.cond (.reg 17)
  (.ops [⟨(some 19), none, .build [(.int .i64 0), (.int .i64 0), (.bool false)] [(0, 1, (.const (.int .i64 0))), (1, 1, (.const (.int .i64 1))), (2, 1, (.const (.bool true)))]⟩, ⟨none, none, .store 3 (.reg 4) (.reg 19)⟩])
  (.seq (.ops [⟨(some 21), none, .eqv false (.one .int) (.reg 13) (.const (.int .i64 4))⟩, ⟨(some 20), none, .mov (.reg 21)⟩])
  (.cond (.reg 20)
  (.ops [⟨(some 22), none, .build [(.int .i64 0), (.int .i64 0), (.bool false)] [(0, 1, (.const (.int .i64 0))), (1, 1, (.const (.int .i64 29))), (2, 1, (.const (.bool true)))]⟩, ⟨none, none, .store 3 (.reg 4) (.reg 22)⟩])
  (.seq (.ops [⟨(some 24), none, .eqv false (.one .int) (.reg 13) (.const (.int .i64 5))⟩, ⟨(some 23), none, .mov (.reg 24)⟩])
  (.cond (.reg 23)
  (.ops [⟨(some 25), none, .addOff (.reg 2) 2⟩, ⟨(some 26), none, .load false 1 (.reg 25)⟩, ⟨(some 27), none, .len .slice (.reg 26)⟩, ⟨(some 28), none, .bin .sub (.reg 27) (.const (.int .i64 1))⟩, ⟨(some 29), none, .build [(.int .i64 0), (.int .i64 0), (.bool false)] [(0, 1, (.const (.int .i64 0))), (1, 1, (.reg 28)), (2, 1, (.const (.bool true)))]⟩, ⟨none, none, .store 3 (.reg 4) (.reg 29)⟩])
  (.seq (.seq (.ops [⟨(some 31), none, .eqv false (.one .int) (.reg 13) (.const (.int .i64 6))⟩, ⟨(some 30), none, .mov (.reg 31)⟩])
  (.cond (.reg 30)
  .skip
  (.seq (.ops [⟨(some 32), none, .eqv false (.one .int) (.reg 13) (.const (.int .i64 11))⟩, ⟨(some 30), none, .mov (.reg 32)⟩])
  (.cond (.reg 30)
  .skip
  (.seq (.ops [⟨(some 33), none, .eqv false (.one .int) (.reg 13) (.const (.int .i64 12))⟩, ⟨(some 30), none, .mov (.reg 33)⟩])
  (.cond (.reg 30)
  .skip
  (.seq (.ops [⟨(some 34), none, .eqv false (.one .int) (.reg 13) (.const (.int .i64 31))⟩, ⟨(some 30), none, .mov (.reg 34)⟩])
  (.cond (.reg 30)
  .skip
  (.ops [⟨(some 35), none, .eqv false (.one .int) (.reg 13) (.const (.int .i64 32))⟩, ⟨(some 30), none, .mov (.reg 35)⟩])))))))))
  (.cond (.reg 30)
  (.ops [⟨(some 36), none, .load true 3 (.reg 7)⟩, ⟨none, none, .store 3 (.reg 4) (.reg 36)⟩])
  (.seq (.ops [⟨(some 38), none, .eqv false (.one .int) (.reg 13) (.const (.int .i64 10))⟩, ⟨(some 37), none, .mov (.reg 38)⟩])
  (.cond (.reg 37)
  (.ops [⟨(some 39), none, .build [(.int .i64 0), (.int .i64 0), (.bool false)] [(0, 1, (.const (.int .i64 1))), (1, 1, (.const (.int .i64 30))), (2, 1, (.const (.bool true)))]⟩, ⟨none, none, .store 3 (.reg 4) (.reg 39)⟩])
  (.seq (.ops [⟨(some 41), none, .eqv false (.one .int) (.reg 13) (.const (.int .i64 18))⟩, ⟨(some 40), none, .mov (.reg 41)⟩])
  (.cond (.reg 40)
  (.ops [⟨(some 42), none, .addOff (.reg 2) 4⟩, ⟨(some 43), none, .load false 1 (.reg 42)⟩, ⟨(some 44), none, .len .slice (.reg 43)⟩, ⟨(some 45), none, .bin .sub (.reg 44) (.const (.int .i64 1))⟩, ⟨(some 46), none, .build [(.int .i64 0), (.int .i64 0), (.bool false)] [(0, 1, (.const (.int .i64 0))), (1, 1, (.reg 45)), (2, 1, (.const (.bool true)))]⟩, ⟨none, none, .store 3 (.reg 4) (.reg 46)⟩])
  (.seq (.ops [⟨(some 48), none, .eqv false (.one .int) (.reg 13) (.const (.int .i64 19))⟩, ⟨(some 47), none, .mov (.reg 48)⟩])
  (.cond (.reg 47)
  (.draw [[], [(⟨(some 49), none, .addOff (.reg 2) 1⟩, []), (⟨(some 50), none, .load false 1 (.reg 49)⟩, [0]), (⟨(some 51), none, .len .slice (.reg 50)⟩, [0, 1]), (⟨(some 52), none, .bin .sub (.reg 51) (.const (.int .i64 1))⟩, [0, 1, 2]), (⟨(some 53), none, .build [(.int .i64 0), (.int .i64 0), (.bool false)] [(0, 1, (.const (.int .i64 0))), (1, 1, (.reg 52)), (2, 1, (.const (.bool true)))]⟩, [0, 1, 2, 3]), (⟨(some 54), none, .load true 3 (.reg 7)⟩, []), (⟨none, none, .store 3 (.reg 4) (.reg 53)⟩, [0, 1, 2, 3, 4])], [(⟨none, none, .store 3 (.reg 5) (.reg 54)⟩, [])]])
  (.seq (.ops [⟨(some 56), none, .eqv false (.one .int) (.reg 13) (.const (.int .i64 29))⟩, ⟨(some 55), none, .mov (.reg 56)⟩])
  (.cond (.reg 55)
  (.ops [⟨(some 57), none, .build [(.int .i64 0), (.int .i64 0), (.bool false)] [(0, 1, (.const (.int .i64 0))), (1, 1, (.const (.int .i64 3))), (2, 1, (.const (.bool true)))]⟩, ⟨none, none, .store 3 (.reg 4) (.reg 57)⟩])
  .skip)))))))))))))))))))

/-- hearth/code.fields -/
def F188 : IFun := ⟨62, [.cell 4 true 3, .cell 5 true 3, .tmp 6], (.seq (.ops [⟨(some 2), none, .box (.reg 0)⟩, ⟨(some 4), none, .alloc (.agg [(.int .i64 0), (.int .i64 0), (.bool false)])⟩, ⟨(some 5), none, .alloc (.agg [(.int .i64 0), (.int .i64 0), (.bool false)])⟩, ⟨(some 6), none, .mov (.const (.bool false))⟩])
  (.seq (.ops [⟨(some 8), none, .addOff (.reg 2) 0⟩, ⟨(some 9), none, .load false 1 (.reg 8)⟩, ⟨(some 10), none, .len .slice (.reg 9)⟩, ⟨(some 11), none, .bin .sub (.reg 10) (.const (.int .i64 1))⟩, ⟨(some 12), none, .build [(.int .i64 0), (.int .i64 0), (.bool false)] [(0, 1, (.const (.int .i64 0))), (1, 1, (.reg 11)), (2, 1, (.const (.bool true)))]⟩, ⟨(some 7), none, .alloc (.agg [(.int .i64 0), (.int .i64 0), (.bool false)])⟩, ⟨none, none, .store 3 (.reg 7) (.reg 12)⟩])
  (.seq (.seq (.ops [⟨(some 13), none, .mov (.reg 1)⟩])
  F188b0)
  (.seq (.draw [[], [(⟨(some 58), none, .load true 3 (.reg 4)⟩, []), (⟨(some 59), none, .load true 3 (.reg 5)⟩, []), (⟨(some 60), none, .mov (.reg 1)⟩, []), (⟨(some 61), none, .call (.const (.func (.func 179) [] [])) [(.reg 60), (.const (.int .i64 1)), (.const (.int .i64 34))]⟩, [2]), (⟨none, none, .store 3 (.reg 4) (.reg 58)⟩, [0, 2, 3])], [(⟨none, none, .store 3 (.reg 5) (.reg 59)⟩, [])], [(⟨(some 6), none, .mov (.reg 61)⟩, [])]])
  .ret))))⟩
theorem c188 : EL.fns 188 = some F188 := fns_of Tryz.func188 (by kernel_rfl) (by kernel_rfl)

/-- hearth/code.all[int]$1 -/
def F189 : IFun := ⟨8, [.tmp 3], (.seq (.ops [⟨(some 3), none, .mov (.const (.bool false))⟩])
  (.seq (.ops [⟨(some 4), none, .load false 1 (.reg 1)⟩, ⟨(some 5), none, .mov (.reg 0)⟩, ⟨(some 6), none, .call (.reg 4) [(.reg 5)]⟩, ⟨(some 7), none, .un .not (.reg 6)⟩, ⟨(some 3), none, .mov (.reg 7)⟩])
  .ret))⟩
theorem c189 : EL.fns 189 = some F189 := fns_of Tryz.func189 (by kernel_rfl) (by kernel_rfl)

/-- hearth/code.follows$1 -/
def F190 : IFun := ⟨82, [], (.seq (.ops [⟨(some 10), none, .load true 5 (.reg 1)⟩, ⟨(some 11), none, .load true 3 (.reg 2)⟩, ⟨(some 12), none, .call (.const (.func (.func 191) [] [])) [(.reg 10), (.reg 11)]⟩, ⟨(some 9), none, .mov (.reg 12)⟩, ⟨(some 13), none, .extract (.reg 9) 0⟩, ⟨(some 14), none, .extract (.reg 9) 1⟩, ⟨(some 6), none, .mov (.reg 13)⟩, ⟨(some 7), none, .mov (.reg 14)⟩])
  (.seq (.ops [⟨(some 15), none, .addOff (.reg 3) 1⟩, ⟨(some 16), none, .load false 1 (.reg 15)⟩, ⟨(some 17), none, .mov (.reg 6)⟩, ⟨(some 18), none, .bin .add (.reg 16) (.reg 17)⟩, ⟨(some 19), none, .addOff (.reg 3) 2⟩, ⟨(some 20), none, .load false 1 (.reg 19)⟩, ⟨(some 21), none, .mov (.reg 7)⟩, ⟨(some 22), none, .bin .add (.reg 20) (.reg 21)⟩, ⟨(some 23), none, .call (.const (.func (.func 167) [] [])) [(.reg 18), (.reg 22)]⟩, ⟨(some 8), none, .alloc (.agg [(.bool false), (.int .i64 0), (.int .i64 0)])⟩, ⟨none, none, .store 3 (.reg 8) (.reg 23)⟩])
  (.seq (.seq (.ops [⟨(some 24), none, .addOff (.reg 2) 0⟩, ⟨(some 25), none, .load false 1 (.reg 24)⟩])
  (.block 0 (.seq (.ops [⟨(some 27), none, .eqv false (.one .int) (.reg 25) (.const (.int .i64 11))⟩, ⟨(some 26), none, .mov (.reg 27)⟩])
  (.cond (.reg 26)
  (.seq (.ops [⟨(some 28), none, .mov (.reg 0)⟩, ⟨(some 29), none, .addOff (.reg 2) 1⟩, ⟨(some 30), none, .load false 1 (.reg 29)⟩, ⟨(some 31), none, .load true 3 (.reg 8)⟩, ⟨(some 32), none, .call (.reg 28) [(.reg 30), (.reg 31)]⟩])
  .ret)
  (.seq (.ops [⟨(some 34), none, .eqv false (.one .int) (.reg 25) (.const (.int .i64 12))⟩, ⟨(some 33), none, .mov (.reg 34)⟩])
  (.cond (.reg 33)
  (.seq (.ops [⟨(some 35), none, .mov (.reg 0)⟩, ⟨(some 36), none, .addOff (.reg 2) 1⟩, ⟨(some 37), none, .load false 1 (.reg 36)⟩, ⟨(some 38), none, .load true 3 (.reg 8)⟩, ⟨(some 39), none, .call (.reg 35) [(.reg 37), (.reg 38)]⟩, ⟨(some 40), none, .un .not (.reg 39)⟩])
  (.cond (.reg 40)
  .ret
  .skip))
  (.seq (.ops [⟨(some 42), none, .eqv false (.one .int) (.reg 25) (.const (.int .i64 19))⟩, ⟨(some 41), none, .mov (.reg 42)⟩])
  (.cond (.reg 41)
  (.seq (.ops [⟨(some 43), none, .mov (.reg 0)⟩, ⟨(some 44), none, .addOff (.reg 2) 2⟩, ⟨(some 45), none, .load false 1 (.reg 44)⟩, ⟨(some 46), none, .load true 3 (.reg 3)⟩, ⟨(some 47), none, .call (.reg 43) [(.reg 45), (.reg 46)]⟩, ⟨(some 48), none, .un .not (.reg 47)⟩])
  (.cond (.reg 48)
  .ret
  .skip))
  (.seq (.seq (.ops [⟨(some 50), none, .eqv false (.one .int) (.reg 25) (.const (.int .i64 6))⟩, ⟨(some 49), none, .mov (.reg 50)⟩])
  (.cond (.reg 49)
  .skip
  (.ops [⟨(some 51), none, .eqv false (.one .int) (.reg 25) (.const (.int .i64 32))⟩, ⟨(some 49), none, .mov (.reg 51)⟩])))
  (.cond (.reg 49)
  (.seq (.draw [[], [(⟨(some 52), none, .mov (.reg 0)⟩, []), (⟨(some 53), none, .addOff (.reg 2) 1⟩, []), (⟨(some 54), none, .load false 1 (.reg 53)⟩, [1]), (⟨(some 55), none, .addOff (.reg 3) 2⟩, []), (⟨(some 56), none, .load false 1 (.reg 55)⟩, [3]), (⟨(some 57), none, .bin .add (.reg 56) (.const (.int .i64 1))⟩, [3, 4]), (⟨(some 58), none, .call (.const (.func (.func 167) [] [])) [(.const (.int .i64 0)), (.reg 57)]⟩, [3, 4, 5])], [(⟨(some 59), none, .call (.reg 52) [(.reg 54), (.reg 58)]⟩, [])], [(⟨(some 60), none, .un .not (.reg 59)⟩, [])]])
  (.cond (.reg 60)
  .ret
  .skip))
  (.seq (.ops [⟨(some 62), none, .eqv false (.one .int) (.reg 25) (.const (.int .i64 31))⟩, ⟨(some 61), none, .mov (.reg 62)⟩])
  (.cond (.reg 61)
  (.seq (.draw [[], [(⟨(some 63), none, .mov (.reg 0)⟩, []), (⟨(some 64), none, .addOff (.reg 2) 1⟩, []), (⟨(some 65), none, .load false 1 (.reg 64)⟩, [1]), (⟨(some 66), none, .addOff (.reg 3) 2⟩, []), (⟨(some 67), none, .load false 1 (.reg 66)⟩, [3]), (⟨(some 68), none, .call (.const (.func (.func 167) [] [])) [(.const (.int .i64 0)), (.reg 67)]⟩, [3, 4])], [(⟨(some 69), none, .call (.reg 63) [(.reg 65), (.reg 68)]⟩, [])], [(⟨(some 70), none, .un .not (.reg 69)⟩, [])]])
  (.cond (.reg 70)
  .ret
  .skip))
  .skip))))))))))))
  (.seq (.draw [[], [(⟨(some 71), none, .load true 3 (.reg 2)⟩, []), (⟨(some 72), none, .load true 5 (.reg 1)⟩, []), (⟨(some 73), none, .load true 3 (.reg 2)⟩, []), (⟨(some 74), none, .call (.const (.func (.func 164) [] [])) [(.reg 72), (.reg 73)]⟩, [1, 2])], [(⟨(some 75), none, .call (.const (.func (.func 192) [] [])) [(.reg 71), (.reg 74)]⟩, [])], [(⟨(some 76), none, .un .not (.reg 75)⟩, [])]])
  (.cond (.reg 76)
  (.ops [⟨(some 77), none, .mov (.reg 0)⟩, ⟨(some 78), none, .load false 1 (.reg 4)⟩, ⟨(some 79), none, .bin .add (.reg 78) (.const (.int .i64 1))⟩, ⟨(some 80), none, .load true 3 (.reg 8)⟩, ⟨(some 81), none, .call (.reg 77) [(.reg 79), (.reg 80)]⟩])
  .skip)))))⟩
theorem c190 : EL.fns 190 = some F190 := fns_of Tryz.func190 (by kernel_rfl) (by kernel_rfl)

/-- hearth/code.grown -/
def F191 : IFun := ⟨56, [.tmp 4, .tmp 5], (.seq (.ops [⟨(some 2), none, .box (.reg 0)⟩, ⟨(some 3), none, .box (.reg 1)⟩, ⟨(some 4), none, .mov (.const (.int .i64 0))⟩, ⟨(some 5), none, .mov (.const (.int .i64 0))⟩])
  (.seq (.seq (.ops [⟨(some 6), none, .addOff (.reg 3) 0⟩, ⟨(some 7), none, .load false 1 (.reg 6)⟩])
  (.block 0 (.seq (.seq (.ops [⟨(some 9), none, .eqv false (.one .int) (.reg 7) (.const (.int .i64 1))⟩, ⟨(some 8), none, .mov (.reg 9)⟩])
  (.cond (.reg 8)
  .skip
  (.seq (.ops [⟨(some 10), none, .eqv false (.one .int) (.reg 7) (.const (.int .i64 2))⟩, ⟨(some 8), none, .mov (.reg 10)⟩])
  (.cond (.reg 8)
  .skip
  (.seq (.ops [⟨(some 11), none, .eqv false (.one .int) (.reg 7) (.const (.int .i64 3))⟩, ⟨(some 8), none, .mov (.reg 11)⟩])
  (.cond (.reg 8)
  .skip
  (.seq (.ops [⟨(some 12), none, .eqv false (.one .int) (.reg 7) (.const (.int .i64 4))⟩, ⟨(some 8), none, .mov (.reg 12)⟩])
  (.cond (.reg 8)
  .skip
  (.seq (.ops [⟨(some 13), none, .eqv false (.one .int) (.reg 7) (.const (.int .i64 5))⟩, ⟨(some 8), none, .mov (.reg 13)⟩])
  (.cond (.reg 8)
  .skip
  (.seq (.ops [⟨(some 14), none, .eqv false (.one .int) (.reg 7) (.const (.int .i64 6))⟩, ⟨(some 8), none, .mov (.reg 14)⟩])
  (.cond (.reg 8)
  .skip
  (.seq (.ops [⟨(some 15), none, .eqv false (.one .int) (.reg 7) (.const (.int .i64 26))⟩, ⟨(some 8), none, .mov (.reg 15)⟩])
  (.cond (.reg 8)
  .skip
  (.seq (.ops [⟨(some 16), none, .eqv false (.one .int) (.reg 7) (.const (.int .i64 30))⟩, ⟨(some 8), none, .mov (.reg 16)⟩])
  (.cond (.reg 8)
  .skip
  (.seq (.ops [⟨(some 17), none, .eqv false (.one .int) (.reg 7) (.const (.int .i64 33))⟩, ⟨(some 8), none, .mov (.reg 17)⟩])
  (.cond (.reg 8)
  .skip
  (.seq (.ops [⟨(some 18), none, .eqv false (.one .int) (.reg 7) (.const (.int .i64 31))⟩, ⟨(some 8), none, .mov (.reg 18)⟩])
  (.cond (.reg 8)
  .skip
  (.ops [⟨(some 19), none, .eqv false (.one .int) (.reg 7) (.const (.int .i64 32))⟩, ⟨(some 8), none, .mov (.reg 19)⟩])))))))))))))))))))))
  (.cond (.reg 8)
  (.seq (.ops [⟨(some 4), none, .mov (.const (.int .i64 1))⟩, ⟨(some 5), none, .mov (.const (.int .i64 0))⟩])
  .ret)
  (.seq (.seq (.ops [⟨(some 21), none, .eqv false (.one .int) (.reg 7) (.const (.int .i64 7))⟩, ⟨(some 20), none, .mov (.reg 21)⟩])
  (.cond (.reg 20)
  .skip
  (.seq (.ops [⟨(some 22), none, .eqv false (.one .int) (.reg 7) (.const (.int .i64 12))⟩, ⟨(some 20), none, .mov (.reg 22)⟩])
  (.cond (.reg 20)
  .skip
  (.seq (.ops [⟨(some 23), none, .eqv false (.one .int) (.reg 7) (.const (.int .i64 13))⟩, ⟨(some 20), none, .mov (.reg 23)⟩])
  (.cond (.reg 20)
  .skip
  (.seq (.ops [⟨(some 24), none, .eqv false (.one .int) (.reg 7) (.const (.int .i64 14))⟩, ⟨(some 20), none, .mov (.reg 24)⟩])
  (.cond (.reg 20)
  .skip
  (.seq (.ops [⟨(some 25), none, .eqv false (.one .int) (.reg 7) (.const (.int .i64 15))⟩, ⟨(some 20), none, .mov (.reg 25)⟩])
  (.cond (.reg 20)
  .skip
  (.seq (.ops [⟨(some 26), none, .eqv false (.one .int) (.reg 7) (.const (.int .i64 16))⟩, ⟨(some 20), none, .mov (.reg 26)⟩])
  (.cond (.reg 20)
  .skip
  (.seq (.ops [⟨(some 27), none, .eqv false (.one .int) (.reg 7) (.const (.int .i64 17))⟩, ⟨(some 20), none, .mov (.reg 27)⟩])
  (.cond (.reg 20)
  .skip
  (.seq (.ops [⟨(some 28), none, .eqv false (.one .int) (.reg 7) (.const (.int .i64 23))⟩, ⟨(some 20), none, .mov (.reg 28)⟩])
  (.cond (.reg 20)
  .skip
  (.ops [⟨(some 29), none, .eqv false (.one .int) (.reg 7) (.const (.int .i64 27))⟩, ⟨(some 20), none, .mov (.reg 29)⟩])))))))))))))))))
  (.cond (.reg 20)
  (.seq (.ops [⟨(some 4), none, .mov (.const (.int .i64 (-1)))⟩, ⟨(some 5), none, .mov (.const (.int .i64 0))⟩])
  .ret)
  (.seq (.ops [⟨(some 31), none, .eqv false (.one .int) (.reg 7) (.const (.int .i64 9))⟩, ⟨(some 30), none, .mov (.reg 31)⟩])
  (.cond (.reg 30)
  (.seq (.ops [⟨(some 4), none, .mov (.const (.int .i64 (-1)))⟩, ⟨(some 5), none, .mov (.const (.int .i64 1))⟩])
  .ret)
  (.seq (.ops [⟨(some 33), none, .eqv false (.one .int) (.reg 7) (.const (.int .i64 10))⟩, ⟨(some 32), none, .mov (.reg 33)⟩])
  (.cond (.reg 32)
  (.seq (.draw [[], [(⟨(some 34), none, .addOff (.reg 3) 1⟩, []), (⟨(some 35), none, .load false 1 (.reg 34)⟩, [0]), (⟨(some 36), none, .un .neg (.reg 35)⟩, [0, 1]), (⟨(some 4), none, .mov (.const (.int .i64 0))⟩, [])], [(⟨(some 5), none, .mov (.reg 36)⟩, [])]])
  .ret)
  (.seq (.ops [⟨(some 38), none, .eqv false (.one .int) (.reg 7) (.const (.int .i64 18))⟩, ⟨(some 37), none, .mov (.reg 38)⟩])
  (.cond (.reg 37)
  (.seq (.ops [⟨(some 39), none, .addOff (.reg 2) 4⟩, ⟨(some 40), none, .load false 1 (.reg 39)⟩, ⟨(some 41), none, .addOff (.reg 3) 1⟩, ⟨(some 42), none, .load false 1 (.reg 41)⟩, ⟨(some 43), none, .idxS 2 (.reg 40) (.reg 42)⟩, ⟨(some 44), none, .addOff (.reg 43) 1⟩, ⟨(some 45), none, .load false 1 (.reg 44)⟩, ⟨(some 46), none, .bin .sub (.const (.int .i64 1)) (.reg 45)⟩, ⟨(some 4), none, .mov (.reg 46)⟩, ⟨(some 5), none, .mov (.const (.int .i64 0))⟩])
  .ret)
  (.seq (.ops [⟨(some 48), none, .eqv false (.one .int) (.reg 7) (.const (.int .i64 19))⟩, ⟨(some 47), none, .mov (.reg 48)⟩])
  (.cond (.reg 47)
  (.seq (.ops [⟨(some 49), none, .addOff (.reg 2) 1⟩, ⟨(some 50), none, .load false 1 (.reg 49)⟩, ⟨(some 51), none, .addOff (.reg 3) 1⟩, ⟨(some 52), none, .load false 1 (.reg 51)⟩, ⟨(some 53), none, .idxS 4 (.reg 50) (.reg 52)⟩, ⟨(some 54), none, .load true 4 (.reg 53)⟩, ⟨(some 55), none, .call (.const (.func (.func 205) [] [])) [(.reg 54)]⟩, ⟨(some 4), none, .mov (.const (.int .i64 (-1)))⟩, ⟨(some 5), none, .mov (.reg 55)⟩])
  .ret)
  .skip))))))))))))))
  (.seq (.ops [⟨(some 4), none, .mov (.const (.int .i64 0))⟩, ⟨(some 5), none, .mov (.const (.int .i64 0))⟩])
  .ret)))⟩
theorem c191 : EL.fns 191 = some F191 := fns_of Tryz.func191 (by kernel_rfl) (by kernel_rfl)

/-- hearth/code.ends -/
def F192 : IFun := ⟨12, [.tmp 4], (.seq (.ops [⟨(some 2), none, .box (.reg 0)⟩, ⟨(some 4), none, .mov (.const (.bool false))⟩])
  (.seq (.seq (.ops [⟨(some 5), none, .mov (.reg 1)⟩])
  (.block 0 (.seq (.ops [⟨(some 6), none, .tassert 268 (.agg [(.int .i64 0)]) true (.reg 5)⟩, ⟨(some 7), none, .extract (.reg 6) 1⟩, ⟨(some 8), none, .extract (.reg 6) 0⟩])
  (.cond (.reg 7)
  (.seq (.ops [⟨(some 4), none, .mov (.const (.bool true))⟩])
  .ret)
  .skip))))
  (.seq (.ops [⟨(some 9), none, .addOff (.reg 2) 0⟩, ⟨(some 10), none, .load false 1 (.reg 9)⟩, ⟨(some 11), none, .eqv false (.one .int) (.reg 10) (.const (.int .i64 20))⟩, ⟨(some 4), none, .mov (.reg 11)⟩])
  .ret)))⟩
theorem c192 : EL.fns 192 = some F192 := fns_of Tryz.func192 (by kernel_rfl) (by kernel_rfl)

/-- hearth/hearthref01.small -/
def F195 : IFun := ⟨20, [.tmp 2], (.seq (.ops [⟨(some 2), none, .mov (.const (.bool false))⟩])
  (.seq (.seq (.ops [⟨(some 3), none, .mov (.const (.int .i64 0))⟩])
  (.block 0 (.loop
  (.seq (.seq (.ops [⟨(some 4), none, .mov (.reg 3)⟩, ⟨(some 5), none, .mov (.reg 0)⟩, ⟨(some 6), none, .len .str (.reg 5)⟩, ⟨(some 7), none, .bin .lss (.reg 4) (.reg 6)⟩])
  (.cond (.reg 7)
  .skip
  (.exit 0)))
  (.seq (.block 1 (.seq (.ops [⟨(some 10), none, .mov (.reg 0)⟩, ⟨(some 11), none, .mov (.reg 3)⟩, ⟨(some 12), none, .idxStr (.reg 10) (.reg 11)⟩, ⟨(some 13), none, .bin .lss (.reg 12) (.const (.int .u8 97))⟩, ⟨(some 14), none, .mov (.reg 13)⟩, ⟨(some 15), (some ((some 14), false)), .mov (.reg 0)⟩, ⟨(some 16), (some ((some 14), false)), .mov (.reg 3)⟩, ⟨(some 17), (some ((some 14), false)), .idxStr (.reg 15) (.reg 16)⟩, ⟨(some 18), (some ((some 14), false)), .bin .gtr (.reg 17) (.const (.int .u8 122))⟩, ⟨(some 19), none, .pick (.reg 14) (.const (.bool true)) (.reg 18)⟩])
  (.cond (.reg 19)
  (.seq (.ops [⟨(some 2), none, .mov (.const (.bool false))⟩])
  .ret)
  .skip)))
  (.ops [⟨(some 8), none, .mov (.reg 3)⟩, ⟨(some 9), none, .bin .add (.reg 8) (.const (.int .i64 1))⟩, ⟨(some 3), none, .mov (.reg 9)⟩]))))))
  (.seq (.ops [⟨(some 2), none, .mov (.const (.bool true))⟩])
  .ret)))⟩
theorem c195 : EL.fns 195 = some F195 := fns_of Tryz.func195 (by kernel_rfl) (by kernel_rfl)

/-- hearth/hearthref01.Has -/
def F196 : IFun := ⟨18, [.tmp 4], (.seq (.ops [⟨(some 4), none, .mov (.const (.bool false))⟩])
  (.seq (.seq (.ops [⟨(some 5), none, .mov (.const (.int .i64 0))⟩])
  (.block 0 (.loop
  (.seq (.seq (.ops [⟨(some 6), none, .mov (.reg 5)⟩, ⟨(some 7), none, .mov (.reg 0)⟩, ⟨(some 8), none, .len .slice (.reg 7)⟩, ⟨(some 9), none, .bin .lss (.reg 6) (.reg 8)⟩])
  (.cond (.reg 9)
  .skip
  (.exit 0)))
  (.seq (.block 1 (.seq (.ops [⟨(some 12), none, .mov (.reg 0)⟩, ⟨(some 13), none, .mov (.reg 5)⟩, ⟨(some 14), none, .idxS 1 (.reg 12) (.reg 13)⟩, ⟨(some 15), none, .load false 1 (.reg 14)⟩, ⟨(some 16), none, .mov (.reg 1)⟩, ⟨(some 17), none, .eqv false (.one .str) (.reg 15) (.reg 16)⟩])
  (.cond (.reg 17)
  (.seq (.ops [⟨(some 4), none, .mov (.const (.bool true))⟩])
  .ret)
  .skip)))
  (.ops [⟨(some 10), none, .mov (.reg 5)⟩, ⟨(some 11), none, .bin .add (.reg 10) (.const (.int .i64 1))⟩, ⟨(some 5), none, .mov (.reg 11)⟩]))))))
  (.seq (.ops [⟨(some 4), none, .mov (.const (.bool false))⟩])
  .ret)))⟩
theorem c196 : EL.fns 196 = some F196 := fns_of Tryz.func196 (by kernel_rfl) (by kernel_rfl)

/-- hearth/code.all[hearth/api.BindCon] -/
def F197 : IFun := ⟨9, [.tmp 4], (.seq (.ops [⟨(some 3), none, .box (.reg 1)⟩, ⟨(some 4), none, .mov (.const (.bool false))⟩])
  (.seq (.ops [⟨(some 5), none, .mov (.reg 0)⟩, ⟨(some 6), none, .mkFunc (.func 207) [] [(.reg 3)]⟩, ⟨(some 7), none, .call (.const (.func (.func 206) [] [])) [(.reg 5), (.reg 6)]⟩, ⟨(some 8), none, .un .not (.reg 7)⟩, ⟨(some 4), none, .mov (.reg 8)⟩])
  .ret))⟩
theorem c197 : EL.fns 197 = some F197 := fns_of Tryz.func197 (by kernel_rfl) (by kernel_rfl)

/-- hearth/code.constructors$1 -/
def F198 : IFun := ⟨24, [.tmp 3], (.seq (.ops [⟨(some 2), none, .box (.reg 0)⟩, ⟨(some 3), none, .mov (.const (.bool false))⟩])
  (.seq (.ops [⟨(some 5), none, .addOff (.reg 2) 0⟩, ⟨(some 6), none, .load false 1 (.reg 5)⟩, ⟨(some 7), none, .call (.const (.func (.func 199) [] [])) [(.reg 6)]⟩, ⟨(some 8), none, .mov (.reg 7)⟩, ⟨(some 9), (some ((some 8), true)), .addOff (.reg 2) 1⟩, ⟨(some 10), (some ((some 8), true)), .load false 1 (.reg 9)⟩, ⟨(some 11), (some ((some 8), true)), .call (.const (.func (.func 179) [] [])) [(.reg 10), (.const (.int .i64 0)), (.const (.int .i64 3))]⟩, ⟨(some 12), none, .pick (.reg 8) (.reg 11) (.const (.bool false))⟩, ⟨(some 13), none, .mov (.reg 12)⟩, ⟨(some 14), (some ((some 13), true)), .load false 1 (.reg 1)⟩, ⟨(some 15), (some ((some 13), true)), .addOff (.reg 2) 0⟩, ⟨(some 16), (some ((some 13), true)), .load false 1 (.reg 15)⟩, ⟨(some 17), (some ((some 13), true)), .lookup (.one .str) (.bool false) false (.reg 14) (.reg 16)⟩, ⟨(some 18), (some ((some 13), true)), .un .not (.reg 17)⟩, ⟨(some 19), none, .pick (.reg 13) (.reg 18) (.const (.bool false))⟩, ⟨(some 4), none, .mov (.reg 19)⟩])
  (.seq (.ops [⟨(some 20), none, .load false 1 (.reg 1)⟩, ⟨(some 21), none, .addOff (.reg 2) 0⟩, ⟨(some 22), none, .load false 1 (.reg 21)⟩, ⟨none, none, .mapSet (.one .str) (.reg 20) (.reg 22) (.const (.bool true))⟩])
  (.seq (.ops [⟨(some 23), none, .mov (.reg 4)⟩, ⟨(some 3), none, .mov (.reg 23)⟩])
  .ret))))⟩
theorem c198 : EL.fns 198 = some F198 := fns_of Tryz.func198 (by kernel_rfl) (by kernel_rfl)

/-- hearth/code.great -/
def F199 : IFun := ⟨34, [.tmp 2], (.seq (.ops [⟨(some 2), none, .mov (.const (.bool false))⟩])
  (.seq (.seq (.ops [⟨(some 5), none, .mov (.reg 0)⟩, ⟨(some 6), none, .eqv false (.one .str) (.reg 5) (.const (.str ⟨#[]⟩))⟩, ⟨(some 7), none, .mov (.reg 6)⟩, ⟨(some 8), (some ((some 7), false)), .mov (.reg 0)⟩, ⟨(some 9), (some ((some 7), false)), .len .str (.reg 8)⟩, ⟨(some 10), (some ((some 7), false)), .bin .gtr (.reg 9) (.const (.int .i64 8))⟩, ⟨(some 11), none, .pick (.reg 7) (.const (.bool true)) (.reg 10)⟩, ⟨(some 12), none, .mov (.reg 11)⟩, ⟨(some 13), (some ((some 12), false)), .mov (.reg 0)⟩, ⟨(some 14), (some ((some 12), false)), .idxStr (.reg 13) (.const (.int .i64 0))⟩, ⟨(some 15), (some ((some 12), false)), .bin .lss (.reg 14) (.const (.int .u8 65))⟩, ⟨(some 16), none, .pick (.reg 12) (.const (.bool true)) (.reg 15)⟩, ⟨(some 17), none, .mov (.reg 16)⟩, ⟨(some 18), (some ((some 17), false)), .mov (.reg 0)⟩, ⟨(some 19), (some ((some 17), false)), .idxStr (.reg 18) (.const (.int .i64 0))⟩, ⟨(some 20), (some ((some 17), false)), .bin .gtr (.reg 19) (.const (.int .u8 90))⟩, ⟨(some 21), none, .pick (.reg 17) (.const (.bool true)) (.reg 20)⟩])
  (.cond (.reg 21)
  (.seq (.ops [⟨(some 2), none, .mov (.const (.bool false))⟩])
  .ret)
  .skip))
  (.seq (.seq (.ops [⟨(some 22), none, .mov (.reg 0)⟩, ⟨(some 23), none, .sliceStr (.reg 22) (some (.const (.int .i64 1))) none⟩, ⟨(some 24), none, .rangeStr (.reg 23)⟩])
  (.block 0 (.loop
  (.seq (.ops [⟨(some 25), none, .nextStr (.reg 24)⟩, ⟨(some 26), none, .extract (.reg 25) 0⟩])
  (.seq (.cond (.reg 26)
  .skip
  (.exit 0))
  (.block 1 (.seq (.ops [⟨(some 27), none, .extract (.reg 25) 2⟩, ⟨(some 4), none, .mov (.reg 27)⟩])
  (.seq (.ops [⟨(some 28), none, .mov (.reg 4)⟩, ⟨(some 29), none, .bin .lss (.reg 28) (.const (.int .i32 97))⟩, ⟨(some 30), none, .mov (.reg 29)⟩, ⟨(some 31), (some ((some 30), false)), .mov (.reg 4)⟩, ⟨(some 32), (some ((some 30), false)), .bin .gtr (.reg 31) (.const (.int .i32 122))⟩, ⟨(some 33), none, .pick (.reg 30) (.const (.bool true)) (.reg 32)⟩])
  (.cond (.reg 33)
  (.seq (.ops [⟨(some 2), none, .mov (.const (.bool false))⟩])
  .ret)
  .skip)))))))))
  (.seq (.ops [⟨(some 2), none, .mov (.const (.bool true))⟩])
  .ret))))⟩
theorem c199 : EL.fns 199 = some F199 := fns_of Tryz.func199 (by kernel_rfl) (by kernel_rfl)

/-- slices.ContainsFunc[[]hearth/api.TermPat,hearth/api.TermPat] -/
def F200 : IFun := ⟨9, [.tmp 4], (.seq (.ops [⟨(some 4), none, .mov (.const (.bool false))⟩])
  (.seq (.ops [⟨(some 5), none, .mov (.reg 0)⟩, ⟨(some 6), none, .mov (.reg 1)⟩, ⟨(some 7), none, .call (.const (.func (.func 208) [] [])) [(.reg 5), (.reg 6)]⟩, ⟨(some 8), none, .bin .geq (.reg 7) (.const (.int .i64 0))⟩, ⟨(some 4), none, .mov (.reg 8)⟩])
  .ret))⟩
theorem c200 : EL.fns 200 = some F200 := fns_of Tryz.func200 (by kernel_rfl) (by kernel_rfl)

/-- hearth/code.all[hearth/api.TermPat]$1 -/
def F201 : IFun := ⟨8, [.tmp 3], (.seq (.ops [⟨(some 2), none, .box (.reg 0)⟩, ⟨(some 3), none, .mov (.const (.bool false))⟩])
  (.seq (.ops [⟨(some 4), none, .load false 1 (.reg 1)⟩, ⟨(some 5), none, .load true 4 (.reg 2)⟩, ⟨(some 6), none, .call (.reg 4) [(.reg 5)]⟩, ⟨(some 7), none, .un .not (.reg 6)⟩, ⟨(some 3), none, .mov (.reg 7)⟩])
  .ret))⟩
theorem c201 : EL.fns 201 = some F201 := fns_of Tryz.func201 (by kernel_rfl) (by kernel_rfl)

/-- hearth/code.pattern$1 -/
def F202 : IFun := ⟨7, [.tmp 3], (.seq (.ops [⟨(some 2), none, .box (.reg 0)⟩, ⟨(some 3), none, .mov (.const (.bool false))⟩])
  (.seq (.ops [⟨(some 4), none, .load true 4 (.reg 2)⟩, ⟨(some 5), none, .load false 1 (.reg 1)⟩, ⟨(some 6), none, .call (.const (.func (.func 185) [] [])) [(.reg 4), (.reg 5)]⟩, ⟨(some 3), none, .mov (.reg 6)⟩])
  .ret))⟩
theorem c202 : EL.fns 202 = some F202 := fns_of Tryz.func202 (by kernel_rfl) (by kernel_rfl)

/-- slices.ContainsFunc[[]hearth/api.CodeIns,hearth/api.CodeIns] -/
def F203 : IFun := ⟨9, [.tmp 4], (.seq (.ops [⟨(some 4), none, .mov (.const (.bool false))⟩])
  (.seq (.ops [⟨(some 5), none, .mov (.reg 0)⟩, ⟨(some 6), none, .mov (.reg 1)⟩, ⟨(some 7), none, .call (.const (.func (.func 209) [] [])) [(.reg 5), (.reg 6)]⟩, ⟨(some 8), none, .bin .geq (.reg 7) (.const (.int .i64 0))⟩, ⟨(some 4), none, .mov (.reg 8)⟩])
  .ret))⟩
theorem c203 : EL.fns 203 = some F203 := fns_of Tryz.func203 (by kernel_rfl) (by kernel_rfl)

/-- hearth/code.all[hearth/api.CodeIns]$1 -/
def F204 : IFun := ⟨8, [.tmp 3], (.seq (.ops [⟨(some 2), none, .box (.reg 0)⟩, ⟨(some 3), none, .mov (.const (.bool false))⟩])
  (.seq (.ops [⟨(some 4), none, .load false 1 (.reg 1)⟩, ⟨(some 5), none, .load true 3 (.reg 2)⟩, ⟨(some 6), none, .call (.reg 4) [(.reg 5)]⟩, ⟨(some 7), none, .un .not (.reg 6)⟩, ⟨(some 3), none, .mov (.reg 7)⟩])
  .ret))⟩
theorem c204 : EL.fns 204 = some F204 := fns_of Tryz.func204 (by kernel_rfl) (by kernel_rfl)

/-- hearth/code.bound -/
def F205 : IFun := ⟨22, [.tmp 2], (.seq (.ops [⟨(some 1), none, .box (.reg 0)⟩, ⟨(some 2), none, .mov (.const (.int .i64 0))⟩])
  (.seq (.ops [⟨(some 3), none, .mov (.const (.int .i64 0))⟩])
  (.seq (.seq (.ops [⟨(some 6), none, .addOff (.reg 1) 0⟩, ⟨(some 7), none, .load false 1 (.reg 6)⟩, ⟨(some 8), none, .eqv false (.one .int) (.reg 7) (.const (.int .i64 2))⟩])
  (.cond (.reg 8)
  (.ops [⟨(some 3), none, .mov (.const (.int .i64 1))⟩])
  .skip))
  (.seq (.seq (.ops [⟨(some 9), none, .addOff (.reg 1) 3⟩, ⟨(some 10), none, .load false 1 (.reg 9)⟩, ⟨(some 11), none, .len .slice (.reg 10)⟩, ⟨(some 12), none, .mov (.const (.int .i64 0))⟩])
  (.block 0 (.loop
  (.seq (.ops [⟨(some 13), none, .bin .lss (.reg 12) (.reg 11)⟩])
  (.seq (.cond (.reg 13)
  .skip
  (.exit 0))
  (.seq (.block 1 (.seq (.ops [⟨(some 14), none, .idxS 4 (.reg 10) (.reg 12)⟩, ⟨(some 15), none, .load true 4 (.reg 14)⟩, ⟨(some 5), none, .alloc (.agg [(.int .i64 0), (.int .i64 0), (.str ⟨#[]⟩), (.frz [] true)])⟩, ⟨none, none, .store 4 (.reg 5) (.reg 15)⟩])
  (.ops [⟨(some 16), none, .mov (.reg 3)⟩, ⟨(some 17), none, .load true 4 (.reg 5)⟩, ⟨(some 18), none, .call (.const (.func (.func 205) [] [])) [(.reg 17)]⟩, ⟨(some 19), none, .bin .add (.reg 16) (.reg 18)⟩, ⟨(some 3), none, .mov (.reg 19)⟩])))
  (.ops [⟨(some 20), none, .bin .add (.reg 12) (.const (.int .i64 1))⟩, ⟨(some 12), none, .mov (.reg 20)⟩])))))))
  (.seq (.ops [⟨(some 21), none, .mov (.reg 3)⟩, ⟨(some 2), none, .mov (.reg 21)⟩])
  .ret)))))⟩
theorem c205 : EL.fns 205 = some F205 := fns_of Tryz.func205 (by kernel_rfl) (by kernel_rfl)

/-- slices.ContainsFunc[[]hearth/api.BindCon,hearth/api.BindCon] -/
def F206 : IFun := ⟨9, [.tmp 4], (.seq (.ops [⟨(some 4), none, .mov (.const (.bool false))⟩])
  (.seq (.ops [⟨(some 5), none, .mov (.reg 0)⟩, ⟨(some 6), none, .mov (.reg 1)⟩, ⟨(some 7), none, .call (.const (.func (.func 210) [] [])) [(.reg 5), (.reg 6)]⟩, ⟨(some 8), none, .bin .geq (.reg 7) (.const (.int .i64 0))⟩, ⟨(some 4), none, .mov (.reg 8)⟩])
  .ret))⟩
theorem c206 : EL.fns 206 = some F206 := fns_of Tryz.func206 (by kernel_rfl) (by kernel_rfl)

/-- hearth/code.all[hearth/api.BindCon]$1 -/
def F207 : IFun := ⟨8, [.tmp 3], (.seq (.ops [⟨(some 2), none, .box (.reg 0)⟩, ⟨(some 3), none, .mov (.const (.bool false))⟩])
  (.seq (.ops [⟨(some 4), none, .load false 1 (.reg 1)⟩, ⟨(some 5), none, .load true 2 (.reg 2)⟩, ⟨(some 6), none, .call (.reg 4) [(.reg 5)]⟩, ⟨(some 7), none, .un .not (.reg 6)⟩, ⟨(some 3), none, .mov (.reg 7)⟩])
  .ret))⟩
theorem c207 : EL.fns 207 = some F207 := fns_of Tryz.func207 (by kernel_rfl) (by kernel_rfl)

/-- slices.IndexFunc[[]hearth/api.TermPat,hearth/api.TermPat] -/
def F208 : IFun := ⟨19, [.tmp 4], (.seq (.ops [⟨(some 4), none, .mov (.const (.int .i64 0))⟩])
  (.seq (.seq (.ops [⟨(some 6), none, .mov (.reg 0)⟩, ⟨(some 7), none, .len .slice (.reg 6)⟩, ⟨(some 8), none, .mov (.const (.int .i64 0))⟩])
  (.block 0 (.loop
  (.seq (.ops [⟨(some 9), none, .bin .lss (.reg 8) (.reg 7)⟩])
  (.seq (.cond (.reg 9)
  .skip
  (.exit 0))
  (.seq (.block 1 (.seq (.ops [⟨(some 10), none, .mov (.reg 8)⟩, ⟨(some 5), none, .mov (.reg 10)⟩])
  (.seq (.ops [⟨(some 11), none, .mov (.reg 1)⟩, ⟨(some 12), none, .mov (.reg 0)⟩, ⟨(some 13), none, .mov (.reg 5)⟩, ⟨(some 14), none, .idxS 4 (.reg 12) (.reg 13)⟩, ⟨(some 15), none, .load true 4 (.reg 14)⟩, ⟨(some 16), none, .call (.reg 11) [(.reg 15)]⟩])
  (.cond (.reg 16)
  (.seq (.ops [⟨(some 17), none, .mov (.reg 5)⟩, ⟨(some 4), none, .mov (.reg 17)⟩])
  .ret)
  .skip))))
  (.ops [⟨(some 18), none, .bin .add (.reg 8) (.const (.int .i64 1))⟩, ⟨(some 8), none, .mov (.reg 18)⟩])))))))
  (.seq (.ops [⟨(some 4), none, .mov (.const (.int .i64 (-1)))⟩])
  .ret)))⟩
theorem c208 : EL.fns 208 = some F208 := fns_of Tryz.func208 (by kernel_rfl) (by kernel_rfl)

/-- slices.IndexFunc[[]hearth/api.CodeIns,hearth/api.CodeIns] -/
def F209 : IFun := ⟨19, [.tmp 4], (.seq (.ops [⟨(some 4), none, .mov (.const (.int .i64 0))⟩])
  (.seq (.seq (.ops [⟨(some 6), none, .mov (.reg 0)⟩, ⟨(some 7), none, .len .slice (.reg 6)⟩, ⟨(some 8), none, .mov (.const (.int .i64 0))⟩])
  (.block 0 (.loop
  (.seq (.ops [⟨(some 9), none, .bin .lss (.reg 8) (.reg 7)⟩])
  (.seq (.cond (.reg 9)
  .skip
  (.exit 0))
  (.seq (.block 1 (.seq (.ops [⟨(some 10), none, .mov (.reg 8)⟩, ⟨(some 5), none, .mov (.reg 10)⟩])
  (.seq (.ops [⟨(some 11), none, .mov (.reg 1)⟩, ⟨(some 12), none, .mov (.reg 0)⟩, ⟨(some 13), none, .mov (.reg 5)⟩, ⟨(some 14), none, .idxS 3 (.reg 12) (.reg 13)⟩, ⟨(some 15), none, .load true 3 (.reg 14)⟩, ⟨(some 16), none, .call (.reg 11) [(.reg 15)]⟩])
  (.cond (.reg 16)
  (.seq (.ops [⟨(some 17), none, .mov (.reg 5)⟩, ⟨(some 4), none, .mov (.reg 17)⟩])
  .ret)
  .skip))))
  (.ops [⟨(some 18), none, .bin .add (.reg 8) (.const (.int .i64 1))⟩, ⟨(some 8), none, .mov (.reg 18)⟩])))))))
  (.seq (.ops [⟨(some 4), none, .mov (.const (.int .i64 (-1)))⟩])
  .ret)))⟩
theorem c209 : EL.fns 209 = some F209 := fns_of Tryz.func209 (by kernel_rfl) (by kernel_rfl)

/-- slices.IndexFunc[[]hearth/api.BindCon,hearth/api.BindCon] -/
def F210 : IFun := ⟨19, [.tmp 4], (.seq (.ops [⟨(some 4), none, .mov (.const (.int .i64 0))⟩])
  (.seq (.seq (.ops [⟨(some 6), none, .mov (.reg 0)⟩, ⟨(some 7), none, .len .slice (.reg 6)⟩, ⟨(some 8), none, .mov (.const (.int .i64 0))⟩])
  (.block 0 (.loop
  (.seq (.ops [⟨(some 9), none, .bin .lss (.reg 8) (.reg 7)⟩])
  (.seq (.cond (.reg 9)
  .skip
  (.exit 0))
  (.seq (.block 1 (.seq (.ops [⟨(some 10), none, .mov (.reg 8)⟩, ⟨(some 5), none, .mov (.reg 10)⟩])
  (.seq (.ops [⟨(some 11), none, .mov (.reg 1)⟩, ⟨(some 12), none, .mov (.reg 0)⟩, ⟨(some 13), none, .mov (.reg 5)⟩, ⟨(some 14), none, .idxS 2 (.reg 12) (.reg 13)⟩, ⟨(some 15), none, .load true 2 (.reg 14)⟩, ⟨(some 16), none, .call (.reg 11) [(.reg 15)]⟩])
  (.cond (.reg 16)
  (.seq (.ops [⟨(some 17), none, .mov (.reg 5)⟩, ⟨(some 4), none, .mov (.reg 17)⟩])
  .ret)
  .skip))))
  (.ops [⟨(some 18), none, .bin .add (.reg 8) (.const (.int .i64 1))⟩, ⟨(some 8), none, .mov (.reg 18)⟩])))))))
  (.seq (.ops [⟨(some 4), none, .mov (.const (.int .i64 (-1)))⟩])
  .ret)))⟩
theorem c210 : EL.fns 210 = some F210 := fns_of Tryz.func210 (by kernel_rfl) (by kernel_rfl)

/-- (hearth/code.wide).met -/
def F226 : IFun := ⟨10, [.tmp 4], (.seq (.ops [⟨(some 2), none, .box (.reg 0)⟩, ⟨(some 3), none, .box (.reg 1)⟩, ⟨(some 4), none, .mov (.const (.bool false))⟩])
  (.seq (.ops [⟨(some 5), none, .addOff (.reg 3) 2⟩, ⟨(some 6), none, .load false 1 (.reg 5)⟩, ⟨(some 7), none, .addOff (.reg 2) 0⟩, ⟨(some 8), none, .load false 1 (.reg 7)⟩, ⟨(some 9), none, .bin .geq (.reg 6) (.reg 8)⟩, ⟨(some 4), none, .mov (.reg 9)⟩])
  .ret))⟩
theorem c226 : EL.fns 226 = some F226 := fns_of Tryz.func226 (by kernel_rfl) (by kernel_rfl)

/-- (hearth/code.least).met -/
def F227 : IFun := ⟨10, [.tmp 4], (.seq (.ops [⟨(some 2), none, .box (.reg 0)⟩, ⟨(some 3), none, .box (.reg 1)⟩, ⟨(some 4), none, .mov (.const (.bool false))⟩])
  (.seq (.ops [⟨(some 5), none, .addOff (.reg 3) 1⟩, ⟨(some 6), none, .load false 1 (.reg 5)⟩, ⟨(some 7), none, .addOff (.reg 2) 0⟩, ⟨(some 8), none, .load false 1 (.reg 7)⟩, ⟨(some 9), none, .bin .geq (.reg 6) (.reg 8)⟩, ⟨(some 4), none, .mov (.reg 9)⟩])
  .ret))⟩
theorem c227 : EL.fns 227 = some F227 := fns_of Tryz.func227 (by kernel_rfl) (by kernel_rfl)

/-- (hearth/code.just).met -/
def F228 : IFun := ⟨10, [.tmp 4], (.seq (.ops [⟨(some 2), none, .box (.reg 0)⟩, ⟨(some 3), none, .box (.reg 1)⟩, ⟨(some 4), none, .mov (.const (.bool false))⟩])
  (.seq (.ops [⟨(some 5), none, .addOff (.reg 3) 1⟩, ⟨(some 6), none, .load false 1 (.reg 5)⟩, ⟨(some 7), none, .addOff (.reg 2) 0⟩, ⟨(some 8), none, .load false 1 (.reg 7)⟩, ⟨(some 9), none, .eqv false (.one .int) (.reg 6) (.reg 8)⟩, ⟨(some 4), none, .mov (.reg 9)⟩])
  .ret))⟩
theorem c228 : EL.fns 228 = some F228 := fns_of Tryz.func228 (by kernel_rfl) (by kernel_rfl)

end Go.Proofs.YtgbfbhahnoafoaaGreatDoor

/- What the small functions come to. -/
namespace Go.Proofs.YtgbfbhahnoafoaaGreatDoor
open Go Go.Abs

variable {Λ : List LoopInfo} {A : Heap} {k : KL}

abbrev call (Λ : List LoopInfo) (g : Nat) (xs : List AV) (A : Heap) [k : KL] : Prop := kCall EL Λ (.func (.func g) [] []) xs A

/-- What a call comes to, wherever it is made. -/
abbrev Comes (g : Nat) (xs : List AV) (r : AV) : Prop := ∀ (Λ : List LoopInfo) (A : Heap) (k : KL), @kCall EL Λ (.func (.func g) [] []) xs A k ↔ k.run (.ret r) A

abbrev iA (n : Int) : AV := .int .i64 n

@[simp] theorem s123 (n a b : Int) : @kCall EL Λ (.func (.func 123) [] []) [iA n, iA a, iA b] A k ↔ k.run (.ret (.bool (decide (a ≤ n) && decide (n ≤ b)))) A := by
  rw [k_apart rfl c123 rfl (by simp [F123]) (by simp)]
  by_cases h : a ≤ n <;> simp [F123, h]

@[simp] theorem s177 (n a b : Int) : @kCall EL Λ (.func (.func 177) [] []) [iA n, iA a, iA b] A k ↔ k.run (.ret (.bool (decide (a ≤ n) && decide (n ≤ b)))) A := by
  rw [k_apart rfl c177 rfl (by simp [F177]) (by simp)]
  by_cases h : a ≤ n <;> simp [F177, h]

@[simp] theorem s179 (n a b : Int) : @kCall EL Λ (.func (.func 179) [] []) [iA n, iA a, iA b] A k ↔ k.run (.ret (.bool (decide (a ≤ n) && decide (n ≤ b)))) A := by
  rw [k_apart rfl c179 rfl (by simp [F179]) (by simp)]
  by_cases h : a ≤ n <;> simp [F179, h]

@[simp] theorem s128 (n a : Int) : @kCall EL Λ (.func (.func 128) [] []) [iA n, iA a] A k ↔ k.run (.ret (.agg [.bool true, iA n, iA a])) A := by
  rw [k_apart rfl c128 rfl (by simp [F128]) (by simp)]
  simp [F128]

@[simp] theorem s167 (n a : Int) : @kCall EL Λ (.func (.func 167) [] []) [iA n, iA a] A k ↔ k.run (.ret (.agg [.bool true, iA n, iA a])) A := by
  rw [k_apart rfl c167 rfl (by simp [F167]) (by simp)]
  simp [F167]

@[simp] theorem s106 (o a b : Int) : @kCall EL Λ (.func (.func 106) [] []) [.agg [iA o, iA a, iA b]] A k ↔ k.run (.ret (iA (if o = 11 ∨ o = 12 then a else if o = 19 then b else -1))) A := by
  rw [k_apart rfl c106 rfl (by simp [F106]) (by simp)]
  by_cases h1 : o = 11 <;> by_cases h2 : o = 12 <;> by_cases h3 : o = 19 <;> simp [F106, h1, h2, h3]

@[simp] theorem s137 (o : Int) : @kCall EL Λ (.func (.func 137) [] []) [iA o] A k ↔ k.run (.ret (.bool (decide (o = 8 ∨ o = 20 ∨ o = 34)))) A := by
  rw [k_apart rfl c137 rfl (by simp [F137]) (by simp)]
  by_cases h : o = 8 <;> by_cases h2 : o = 20 <;> by_cases h3 : o = 34 <;> simp [F137, h, h2, h3]

@[simp] theorem s161 (o : Int) : @kCall EL Λ (.func (.func 161) [] []) [iA o] A k ↔ k.run (.ret (.bool (decide (o ≠ 9 ∧ o ≠ 10 ∧ o ≠ 11 ∧ o ≠ 12 ∧ o ≠ 19)))) A := by
  rw [k_apart rfl c161 rfl (by simp [F161]) (by simp)]
  by_cases h : o = 9 <;> by_cases h2 : o = 10 <;> by_cases h3 : o = 11 <;> by_cases h4 : o = 12 <;> by_cases h5 : o = 19 <;> simp [F161, h, h2, h3, h4, h5]

@[simp] theorem s130 (o : Int) : @kCall EL Λ (.func (.func 130) [] []) [iA o] A k ↔ k.run (.ret (.bool (decide (o = 6 ∨ o = 31 ∨ o = 32)))) A := by
  rw [k_apart rfl c130 rfl (by simp [F130]) (by simp)]
  by_cases h : o = 6 <;> by_cases h2 : o = 31 <;> by_cases h3 : o = 32 <;> simp [F130, h, h2, h3]

@[simp] theorem s103 (o : Int) : @kCall EL Λ (.func (.func 103) [] []) [iA o] A k ↔ k.run (.ret (.bool (decide (o = 11 ∨ o = 12 ∨ o = 19)))) A := by
  rw [k_apart rfl c103 rfl (by simp [F103]) (by simp)]
  by_cases h : o = 11 <;> by_cases h2 : o = 12 <;> by_cases h3 : o = 19 <;> simp [F103, h, h2, h3]

@[simp] theorem s155 (n : Int) (h : 0 ≤ n) (h2 : n ≤ 1000000) : @kCall EL Λ (.func (.func 155) [] []) [iA n] A k ↔ k.run (.ret (iA (60 + n))) A := by
  rw [k_apart rfl c155 rfl (by simp [F155]) (by simp)]
  have := wrap_i64 (n := 60 + n) (by omega) (by omega)
  simp [F155, this]

/-- 'asks', but for CodeCon's. -/
def asksR (o args : Int) : Int := if o = 7 ∨ o = 13 ∨ o = 14 ∨ o = 15 ∨ o = 16 ∨ o = 17 ∨ o = 23 ∨ o = 27 then 2 else if o = 9 ∨ o = 12 ∨ o = 19 ∨ o = 21 ∨ o = 22 ∨ o = 24 ∨ o = 25 ∨ o = 28 ∨ o = 29 then 1 else if o = 18 then args else if o = 8 then -3 else if o = 34 then -2 else 0

/-! ### Data -/

structure Ins where
  op : Int
  a : Int
  b : Int
  deriving DecidableEq

structure Con where
  name : ByteArray
  args : Int

inductive Pat where
  | mk (form n : Int) (text : ByteArray) (parts : List Pat) (clip : Bool)

structure Prog where
  ins : List Ins
  ic : Bool
  pats : List Pat
  pc : Bool
  funs : List Int
  fc : Bool
  main : Int
  cons : List Con
  cc : Bool

@[simp] def Ins.av (x : Ins) : AV := .agg [iA x.op, iA x.a, iA x.b]
@[simp] def Con.av (x : Con) : AV := .agg [.str x.name, iA x.args]

mutual
def Pat.av : Pat → AV
  | .mk f n t ps c => .agg [iA f, iA n, .str t, .frz (patsAv ps) c]
def patsAv : List Pat → List AV
  | [] => []
  | p :: ps => p.av :: patsAv ps
end

theorem patsAv_map : ∀ ps : List Pat, patsAv ps = ps.map Pat.av
  | [] => rfl
  | p :: ps => by simp [patsAv, patsAv_map ps]

@[simp] theorem Pat.av_mk {f n : Int} {t : ByteArray} {ps : List Pat} {c : Bool} : (Pat.mk f n t ps c).av = .agg [iA f, iA n, .str t, .frz (ps.map Pat.av) c] := by simp [Pat.av, patsAv_map]

abbrev Prog.av (c : Prog) : AV := .agg [.frz (c.ins.map Ins.av) c.ic, .frz (c.pats.map Pat.av) c.pc, .frz (c.funs.map iA) c.fc, iA c.main, .frz (c.cons.map Con.av) c.cc]

/-- How many arguments a constructor has. -/
def Prog.argsOf (c : Prog) (i : Int) : Int := (c.cons.map Con.args).getD i.toNat 0

@[simp] theorem s160 (c : Prog) (x : Ins) (h : x.op = 18 → 0 ≤ x.a ∧ x.a < c.cons.length) : @kCall EL Λ (.func (.func 160) [] []) [c.av, .agg [iA x.op, iA x.a, iA x.b]] A k ↔ k.run (.ret (iA (asksR x.op (c.argsOf x.a)))) A := by
  rw [k_apart rfl c160 rfl (by simp [F160]) (by simp [Prog.av])]
  obtain ⟨o, a, b⟩ := x
  simp only at h ⊢
  have hc : o = 7 ∨ o = 13 ∨ o = 14 ∨ o = 15 ∨ o = 16 ∨ o = 17 ∨ o = 23 ∨ o = 27 ∨ o = 9 ∨ o = 12 ∨ o = 19 ∨ o = 21 ∨ o = 22 ∨ o = 24 ∨ o = 25 ∨ o = 28 ∨ o = 29 ∨ o = 18 ∨ o = 8 ∨ o = 34 ∨
    (o ≠ 7 ∧ o ≠ 13 ∧ o ≠ 14 ∧ o ≠ 15 ∧ o ≠ 16 ∧ o ≠ 17 ∧ o ≠ 23 ∧ o ≠ 27 ∧ o ≠ 9 ∧ o ≠ 12 ∧ o ≠ 19 ∧ o ≠ 21 ∧ o ≠ 22 ∧ o ≠ 24 ∧ o ≠ 25 ∧ o ≠ 28 ∧ o ≠ 29 ∧ o ≠ 18 ∧ o ≠ 8 ∧ o ≠ 34) := by omega
  rcases hc with rfl | rfl | rfl | rfl | rfl | rfl | rfl | rfl | rfl | rfl | rfl | rfl | rfl | rfl | rfl | rfl | rfl | rfl | rfl | rfl | hc
  case inr.inr.inr.inr.inr.inr.inr.inr.inr.inr.inr.inr.inr.inr.inr.inr.inr.inl =>
    obtain ⟨h1, h2⟩ := h rfl
    have h3 : a.toNat < c.cons.length := by omega
    simp [F160, Prog.av, asksR, Prog.argsOf, h1, h2, h3]
  all_goals simp [F160, Prog.av, asksR, *]

end Go.Proofs.YtgbfbhahnoafoaaGreatDoor

/- Lists that a function gathers. -/
namespace Go.Abs

/-- A list that a function gathers: nothing yet, or a block of its own. -/
def Gathers (B : Heap) (esz : Nat) (v : AV) (es : List AV) : Prop :=
  (v = .frz [] true ∧ es = []) ∨ ∃ id c, v = .own id 0 es.length c ∧ id < B.length ∧ hget B id = .cells esz es ∧ es ≠ []

/-- The block of a list, if it has one. -/
def AV.blockIs (v : AV) (i : Nat) : Prop := ∃ o n c, v = .own i o n c

theorem gather_append {B : Heap} {esz bytes : Nat} {x y : AV} {es new : List AV} (hx : Gathers B esz x es) (hy : elems B y = some new) (hys : ∀ s, y ≠ .str s) (hne : new ≠ []) (hsz : ∀ e ∈ es ++ new, e.cells.length = esz)
    (hb : (es.length + new.length) * bytes ≤ maxBytes) (hb2 : es.length + new.length ≤ 9223372036854775807) :
    ∃ out, appendA B B.length esz bytes x y = some out ∧ Gathers (applyOut B out) esz out.v (es ++ new) ∧ B.length < (applyOut B out).length ∧ (∀ i, i < B.length → ¬ x.blockIs i → hget (applyOut B out) i = hget B i) ∧ out.v = .own B.length 0 (es.length + new.length) false := by
  have hemp : new.isEmpty = false := by cases new <;> simp_all
  have hall : (es ++ new).all (fun e => decide (e.cells.length = esz)) = true := by
    rw [List.all_eq_true]; intro e he; simpa using hsz e he
  have h1 : appendA B B.length esz bytes x y = appendL B B.length esz bytes x new := by
    cases y <;> first | (simp only [appendA, hy]; done) | exact absurd rfl (hys _)
  rw [h1]
  rcases hx with ⟨rfl, rfl⟩ | ⟨id, c, rfl, hid, hget', hes⟩
  · refine ⟨⟨.own B.length 0 new.length false, [], some (.cells esz new)⟩, ?_, .inr ⟨B.length, false, by simp, by simp, by simp, by simpa using hne⟩, by simp, fun i hi _ => ?_, by simp⟩
    · simp only [appendL, hemp, Bool.false_eq_true, if_false, elems]
      rw [if_pos ⟨by simpa using hb, by simpa using hb2, rfl, hall⟩]
      simp [appOut]
    · simp [hget_app_lt hi]
  · have he : elems B (.own id 0 es.length c) = some es := by simp [hget']
    have hw : wide B esz (.own id 0 es.length c) = true := by simp [wide, hget']
    cases c with
    | true =>
      refine ⟨⟨.own B.length 0 (es.length + new.length) false, [], some (.cells esz (es ++ new))⟩, ?_, .inr ⟨B.length, false, by simp, by simp, by simp, by simp [hes]⟩, by simp, fun i hi _ => ?_, rfl⟩
      · simp only [appendL, hemp, Bool.false_eq_true, if_false, he]
        rw [if_pos ⟨hb, hb2, hw, hall⟩]
        simp [appOut]
      · simp [hget_app_lt hi]
    | false =>
      refine ⟨⟨.own B.length 0 (es.length + new.length) false, [(id, .dead)], some (.cells esz (es ++ new))⟩, ?_, .inr ⟨B.length, false, by simp, ?_, ?_, by simp [hes]⟩, ?_, fun i hi hn => ?_, rfl⟩
      · simp only [appendL, hemp, Bool.false_eq_true, if_false, he]
        rw [if_pos ⟨hb, hb2, hw, hall⟩]
        simp [appOut]
      · rw [applyOut_both hid]; simp [hid]
      · rw [applyOut_both hid, hset_lt hid]
        have : (B.set id .dead).length = B.length := by simp
        have h3 := hget_snoc (A := B.set id .dead) (b := .cells esz (es ++ new))
        rw [this] at h3; exact h3
      · rw [applyOut_both hid]; simp [hid]
      · rw [applyOut_both hid, hget_app_lt (by simpa [hid] using hi), hget_hset]
        have : i ≠ id := fun e => hn ⟨0, es.length, false, by rw [e]⟩
        rw [upd1_ne _ _ _ this]

/-- The same, where nothing may be put in. -/
theorem gather_append0 {B : Heap} {esz bytes : Nat} {x y : AV} {es new : List AV} (hx : Gathers B esz x es) (hy : elems B y = some new) (hys : ∀ s, y ≠ .str s) (hsz : ∀ e ∈ es ++ new, e.cells.length = esz)
    (hb : (es.length + new.length) * bytes ≤ maxBytes) (hb2 : es.length + new.length ≤ 9223372036854775807) :
    ∃ out, appendA B B.length esz bytes x y = some out ∧ Gathers (applyOut B out) esz out.v (es ++ new) ∧ B.length ≤ (applyOut B out).length ∧ (∀ i, i < B.length → ¬ x.blockIs i → hget (applyOut B out) i = hget B i) ∧ (∀ i, out.v.blockIs i → x.blockIs i ∨ i = B.length) := by
  by_cases hne : new = []
  · subst hne
    have h1 : appendA B B.length esz bytes x y = appendL B B.length esz bytes x [] := by
      cases y <;> first | (simp only [appendA, hy]; done) | exact absurd rfl (hys _)
    refine ⟨⟨x, [], none⟩, ?_, by simpa [applyOut_val] using hx, by simp [applyOut_val], fun i hi _ => by simp [applyOut_val], fun i h => .inl h⟩
    rw [h1]
    rcases hx with ⟨rfl, rfl⟩ | ⟨id, c, rfl, _⟩ <;> rfl
  · obtain ⟨out, h1, h2, h3, h4, h5⟩ := gather_append hx hy hys hne hsz hb hb2
    refine ⟨out, h1, h2, by omega, h4, fun i hi => ?_⟩
    obtain ⟨o, n, cc, hv⟩ := hi
    rw [h5] at hv
    cases hv
    exact .inr rfl

/-- The elements of what was gathered. -/
theorem Gathers.elems {B : Heap} {esz : Nat} {v : AV} {es : List AV} (h : Gathers B esz v es) : elems B v = some es := by
  rcases h with ⟨rfl, rfl⟩ | ⟨id, c, rfl, _, h, _⟩
  · rfl
  · simp [h]

/-- More memory, what was there as it was. -/
theorem Gathers.keep {B B' : Heap} {esz : Nat} {v : AV} {es : List AV} (h : Gathers B esz v es) (hl : B.length ≤ B'.length) (hk : ∀ i, i < B.length → hget B' i = hget B i) : Gathers B' esz v es := by
  rcases h with ⟨rfl, rfl⟩ | ⟨id, c, rfl, h1, h2, h3⟩
  · exact .inl ⟨rfl, rfl⟩
  · exact .inr ⟨id, c, rfl, by omega, by rw [hk id h1]; exact h2, h3⟩

theorem Gathers.append {B : Heap} {l : List Blk} {esz : Nat} {v : AV} {es : List AV} (h : Gathers B esz v es) : Gathers (B ++ l) esz v es :=
  h.keep (by simp) (fun i hi => hget_app_lt hi)

theorem fz_own {n : Nat} {A : Heap} {k : Nat} {t : Bool} {id off len : Nat} {c : Bool} : Go.Abs.freeze n A (k + 1) t (.own id off len c) = if id < n then (if t then some (.own id off len c) else none) else match hget A id with
      | .cells _ es => if off + len ≤ es.length then (freezeList (Go.Abs.freeze n A k false) ((es.drop off).take len)).map fun l => .frz l c else none
      | _ => none := rfl

/-- What was gathered is handed back, frozen. -/
theorem Gathers.freeze {B : Heap} {esz : Nat} {v : AV} {es : List AV} (h : Gathers B esz v es) (hes : ∀ e ∈ es, ∀ k, Go.Abs.freeze 0 B (k + 1) false e = some e) (k : Nat) (t : Bool) : ∃ c, Go.Abs.freeze 0 B (k + 2) t v = some (.frz es c) := by
  rcases h with ⟨rfl, rfl⟩ | ⟨id, c, rfl, h1, h2, h3⟩
  · exact ⟨true, rfl⟩
  · refine ⟨c, ?_⟩
    have hl : ∀ (l : List AV), (∀ e ∈ l, Go.Abs.freeze 0 B (k + 1) false e = some e) → freezeList (Go.Abs.freeze 0 B (k + 1) false) l = some l := by
      intro l
      induction l with
      | nil => intro _; rfl
      | cons a l ih => intro h; simp [h a (by simp), ih (fun e he => h e (by simp [he]))]
    rw [show k + 2 = (k + 1) + 1 from rfl, fz_own, h2]
    simp [hl es (fun e he => hes e he k)]

/-- A list that can be read: frozen, or a part of a block. -/
def Readable (B : Heap) (esz : Nat) (v : AV) (es : List AV) : Prop :=
  (∃ c, v = .frz es c) ∨ ∃ id off c bs, v = .own id off es.length c ∧ hget B id = .cells esz bs ∧ off + es.length ≤ bs.length ∧ (bs.drop off).take es.length = es

theorem Gathers.readable {B : Heap} {esz : Nat} {v : AV} {es : List AV} (h : Gathers B esz v es) : Readable B esz v es := by
  rcases h with ⟨rfl, rfl⟩ | ⟨id, c, rfl, _, h, _⟩
  · exact .inl ⟨true, rfl⟩
  · exact .inr ⟨id, 0, c, es, rfl, h, by simp, by simp⟩

theorem Readable.len {B : Heap} {esz : Nat} {v : AV} {es : List AV} (h : Readable B esz v es) : lenA B .slice v = some (.int .i64 es.length) := by
  rcases h with ⟨c, rfl⟩ | ⟨id, off, c, bs, rfl, _, _, _⟩ <;> rfl

theorem Readable.idx {B : Heap} {esz : Nat} {v : AV} {es : List AV} (h : Readable B esz v es) (hs : ∀ e ∈ es, e.cells.length = esz) {j : Nat} (hj : j < es.length) :
    ∃ p, idxSA B esz v (.int .i64 j) = some p ∧ ∀ g n, ld B g n p = cut g n 0 (es[j]).cells := by
  rcases h with ⟨c, rfl⟩ | ⟨id, off, c, bs, rfl, h1, h2, h3⟩
  · refine ⟨.fp es j 0, ?_, fun g n => ?_⟩
    · have := hs es[j] (List.getElem_mem hj)
      simp [hj, this]
    · simp [hj]
  · refine ⟨.ptr id (off + j) 0, ?_, fun g n => ?_⟩
    · simp [h1, hj]
    · have : bs[off + j]? = some es[j] := by
        have h4 : ((bs.drop off).take es.length)[j]? = some es[j] := by rw [h3]; simp [hj]
        rw [List.getElem?_take, if_pos hj, List.getElem?_drop] at h4
        exact h4
      simp only [ld, spotOf, h1, this, Option.map_some]

theorem Readable.take {B : Heap} {esz : Nat} {v : AV} {es : List AV} (h : Readable B esz v es) (hs : ∀ e ∈ es, e.cells.length = esz) {j : Nat} (hj : j ≤ es.length) :
    wide B esz v = true ∧ ∃ v', sliceA v none (some (.int .i64 j)) none = some v' ∧ Readable B esz v' (es.take j) := by
  rcases h with ⟨c, rfl⟩ | ⟨id, off, c, bs, rfl, h1, h2, h3⟩
  · refine ⟨?_, .frz (es.take j) (c && decide (j = es.length)), ?_, .inl ⟨_, rfl⟩⟩
    · cases es with
      | nil => rfl
      | cons e es => simpa using hs e (by simp)
    · simp [hj]
  · refine ⟨by simp [h1], .own id off j (c && decide (j = es.length)), by simp [hj], .inr ⟨id, off, (c && decide (j = es.length)), bs, by simp [Nat.min_eq_left hj], h1, by simp; omega, ?_⟩⟩
    conv => rhs; rw [← h3]
    simp [List.take_take, Nat.min_eq_left hj]

end Go.Abs

/- What functions over strings and lists come to. -/
namespace Go.Proofs.YtgbfbhahnoafoaaGreatDoor
open Go Go.Abs

variable {Λ : List LoopInfo} {A : Heap} {k : KL}

def maxI : Nat := 9223372036854775807

theorem list_eq_of_take {X : Type} {xs ys : List X} {n : Nat} (h : xs.take n = ys.take n) (h1 : xs.length ≤ n) (h2 : ys.length ≤ n) : xs = ys := by
  rwa [List.take_of_length_le h1, List.take_of_length_le h2] at h

theorem take_succ_eq {X : Type} {xs ys : List X} {n : Nat} (h : xs.take n = ys.take n) (h1 : n < xs.length) (h2 : n < ys.length) (h3 : xs[n] = ys[n]) : xs.take (n + 1) = ys.take (n + 1) := by
  rw [List.take_succ_eq_append_getElem h1, List.take_succ_eq_append_getElem h2, h, h3]

/-- R05's 'same'. -/
@[simp] theorem s131 (xs ys : List Int) (c1 c2 : Bool) (hx : xs.length ≤ maxI) : @kCall EL Λ (.func (.func 131) [] []) [.frz (xs.map iA) c1, .frz (ys.map iA) c2] A k ↔ k.run (.ret (.bool (decide (xs = ys)))) A := call_iff fun k hk => by
  rw [k_apart rfl c131 rfl (by simp [F131]) (by simp)]
  unfold maxI at hx
  by_cases h : (xs.length : Int) = ys.length
  · simp [F131, h]
    refine k_for (fun j f B => B = [] ∧ f 0 = .frz (xs.map iA) c1 ∧ f 1 = .frz (ys.map iA) c2 ∧ f 5 = iA j ∧ xs.take j = ys.take j) xs.length ⟨rfl, by simp⟩ ?_
    rintro j f B hj ⟨rfl, h0, h1, h5, hp⟩
    have hl : xs.length = ys.length := by omega
    by_cases hlt : j < xs.length
    · have hy : j < ys.length := by omega
      by_cases he : xs[j] = ys[j]
      · simp [h0, h1, h5, hlt, hy, wrap_succ (j := j) (by omega), he]
        exact ⟨by omega, _, rfl, rfl, by simp [h0], by simp [h1], by simp, take_succ_eq hp hlt hy he⟩
      · have : xs ≠ ys := fun e => he (by subst e; rfl)
        simp [h0, h1, h5, hlt, hy, he, F131]
        simpa [this] using hk
    · have : xs = ys := list_eq_of_take hp (by omega) (by omega)
      simp [h0, h5, hlt, F131]
      simpa [this] using hk
  · have : xs ≠ ys := fun e => h (by rw [e])
    simpa [F131, h, this] using hk

@[simp] theorem s82 (xs ys : List Int) (c1 c2 : Bool) (hx : xs.length ≤ maxI) : @kCall EL Λ (.func (.func 82) [] []) [.frz (xs.map iA) c1, .frz (ys.map iA) c2] A k ↔ k.run (.ret (.bool (decide (xs = ys)))) A := by
  rw [k_apart rfl c82 rfl (by simp [F82]) (by simp)]
  simp [F82, hx]

/-! ### Strings -/

def lowB (b : UInt8) : Bool := decide (97 ≤ b.toNat) && decide (b.toNat ≤ 122)

/-- R01's 'small'. -/
@[simp] theorem s195 (s : ByteArray) (hs : s.size ≤ maxI) : @kCall EL Λ (.func (.func 195) [] []) [.str s] A k ↔ k.run (.ret (.bool (s.data.toList.all lowB))) A := call_iff fun k hk => by
  rw [k_apart rfl c195 rfl (by simp [F195]) (by simp)]
  unfold maxI at hs
  simp [F195]
  refine k_for (fun j f B => B = [] ∧ f 0 = .str s ∧ f 3 = iA j ∧ (s.data.toList.take j).all lowB = true) s.size ⟨rfl, by simp⟩ ?_
  rintro j f B hj ⟨rfl, h0, h3, hp⟩
  by_cases hlt : j < s.size
  · have hg : s[j]? = some s[j] := by simp [hlt]
    have hb : s.data.toList[j]? = some s[j] := by
      rw [Array.getElem?_toList]; exact hg
    by_cases h1 : ((s[j]).toNat : Int) < 97
    · have : s.data.toList.all lowB = false := by
        rw [List.all_eq_false]
        exact ⟨s[j], List.mem_of_getElem? hb, by simp [lowB]; omega⟩
      simp [h0, h3, hlt, h1, F195]
      simpa [this] using hk
    · by_cases h2 : ((s[j]).toNat : Int) > 122
      · have : s.data.toList.all lowB = false := by
          rw [List.all_eq_false]
          exact ⟨s[j], List.mem_of_getElem? hb, by simp [lowB]; omega⟩
        simp [h0, h3, hlt, h1, h2, F195]
        simpa [this] using hk
      · simp [h0, h3, hlt, h1, h2, wrap_succ (j := j) (by omega)]
        refine ⟨by omega, _, rfl, rfl, by simp [h0], by simp, ?_⟩
        rw [List.take_add_one, hb, List.all_append, hp]
        simp [lowB]; omega
  · have : s.data.toList.all lowB = true := by
      rwa [List.take_of_length_le (by simp; exact Nat.le_of_not_lt hlt)] at hp
    simp [h0, h3, hlt, F195]
    simpa [this] using hk

theorem b196 {Λ : List LoopInfo} {k : KE} {B : Heap} {v : AV} {xs : List ByteArray} {s : ByteArray} (hv : Readable B 1 v (xs.map .str)) (hx : xs.length ≤ maxI)
    (hk : ∀ f, f 4 = .bool (xs.any fun x => x.toList == s.toList) → k.run .ret (regs 18 f) B) : @kWp EL Λ F196.body (regs 18 (ini [v, .str s])) B k := by
  unfold maxI at hx
  simp [F196]
  refine k_for (fun j f B' => B' = B ∧ f 0 = v ∧ f 1 = .str s ∧ f 5 = iA j ∧ (xs.take j).any (fun x => x.toList == s.toList) = false) xs.length ⟨rfl, by simp⟩ ?_
  rintro j f B' hj ⟨rfl, h0, h1, h5, hp⟩
  have hlen := hv.len
  rw [List.length_map] at hlen
  by_cases hlt : j < xs.length
  · obtain ⟨p, hp1, hp2⟩ := hv.idx (fun e he => by obtain ⟨x, _, rfl⟩ := List.mem_map.1 he; rfl) (j := j) (by simpa using hlt)
    simp at hp2
    cases he : (xs[j].toList == s.toList) with
    | true =>
      have : xs.any (fun x => x.toList == s.toList) = true := by
        rw [List.any_eq_true]; exact ⟨xs[j], List.getElem_mem hlt, he⟩
      simp [h0, h1, h5, hlt, hlen, hp1, hp2, he]
      exact hk _ (by simp [this])
    | false =>
      simp [h0, h1, h5, hlt, hlen, hp1, hp2, he, wrap_succ (j := j) (by omega)]
      refine ⟨by omega, _, rfl, rfl, by simp [h0], by simp [h1], by simp, ?_⟩
      rw [List.take_succ_eq_append_getElem hlt, List.any_append, hp]
      simp [he]
  · have : xs.any (fun x => x.toList == s.toList) = false := by
      rwa [List.take_of_length_le (by omega)] at hp
    simp [h0, h5, hlt, hlen]
    exact hk _ (by simp [this])

/-- R01's 'Has'. -/
theorem s196 {Λ : List LoopInfo} {A : Heap} {k : KL} {v : AV} {xs : List ByteArray} {s : ByteArray} (hv : Readable A 1 v (xs.map .str)) (hx : xs.length ≤ maxI) : @kCall EL Λ (.func (.func 196) [] []) [v, .str s] A k ↔ k.run (.ret (.bool (xs.any fun x => x.toList == s.toList))) A := call_iff fun k hk => by
  by_cases hu : v.under 0 = true
  · rw [k_apart rfl c196 rfl (by simp [F196]) (by simp [hu])]
    have hv0 : Readable [] 1 v (xs.map .str) := by
      rcases hv with ⟨c, rfl⟩ | ⟨id, off, c, bs, rfl, _⟩
      · exact .inl ⟨c, rfl⟩
      · simp at hu
    refine b196 hv0 hx (fun f h4 => ?_)
    simp [F196, h4]
    exact hk
  · rw [k_fun rfl c196 (by simp [hu]) (by simp [F196])]
    refine b196 hv hx (fun f h4 => ?_)
    simp [F196, h4]
    exact hk

/-- Strings that all differ. -/
def differ (xs : List ByteArray) : Bool := (List.range xs.length).all fun j => !((xs.take j).any fun x => x.toList == (xs.getD j default).toList)

theorem b178 {Λ : List LoopInfo} {k : KE} {B : Heap} {v : AV} {xs : List ByteArray} (hv : Readable B 1 v (xs.map .str)) (hx : xs.length ≤ maxI)
    (hk : ∀ f, f 2 = .bool (differ xs) → k.run .ret (regs 18 f) B) : @kWp EL Λ F178.body (regs 18 (ini [v])) B k := by
  have hx' := hx
  unfold maxI at hx
  simp [F178]
  refine k_for (fun j f B' => B' = B ∧ f 0 = v ∧ f 3 = iA j ∧ (List.range j).all (fun j => !((xs.take j).any fun x => x.toList == (xs.getD j default).toList)) = true) xs.length ⟨rfl, by simp⟩ ?_
  rintro j f B' hj ⟨rfl, h0, h3, hp⟩
  have hlen := hv.len
  rw [List.length_map] at hlen
  have hcell : ∀ e ∈ xs.map AV.str, e.cells.length = 1 := fun e he => by obtain ⟨x, _, rfl⟩ := List.mem_map.1 he; rfl
  by_cases hlt : j < xs.length
  · obtain ⟨p, hp1, hp2⟩ := hv.idx hcell (j := j) (by simpa using hlt)
    simp at hp2
    obtain ⟨hw, v', hv1, hv2⟩ := hv.take hcell (j := j) (by simpa using hj)
    rw [← List.map_take] at hv2
    have hs := fun {Λ : List LoopInfo} {k : KL} => s196 (Λ := Λ) (k := k) (s := xs[j]) hv2 (by unfold maxI; simp; omega)
    have hd : xs.getD j default = xs[j] := by simp [List.getD, hlt]
    cases he : (List.take j xs).any (fun x => x.toList == xs[j].toList) with
    | true =>
      have : differ xs = false := by
        unfold differ
        rw [List.all_eq_false]
        exact ⟨j, by simpa using hlt, by rw [hd, he]; simp⟩
      simp [h0, h3, hlt, hlen, hp1, hp2, hw, hv1, hs, he]
      exact hk _ (by simp [this])
    | false =>
      simp [h0, h3, hlt, hlen, hp1, hp2, hw, hv1, hs, he, wrap_succ (j := j) (by omega)]
      refine ⟨by omega, _, rfl, rfl, by simp [h0], by simp, ?_⟩
      rw [List.range_succ, List.all_append, hp]
      simp only [List.all_cons, List.all_nil, hd, he]; rfl
  · have : differ xs = true := by
      unfold differ
      have e : j = xs.length := by omega
      rwa [← e]
    simp [h0, h3, hlt, hlen]
    exact hk _ (by simp [this])

theorem s178 {Λ : List LoopInfo} {A : Heap} {k : KL} {v : AV} {xs : List ByteArray} (hv : Readable A 1 v (xs.map .str)) (hx : xs.length ≤ maxI) : @kCall EL Λ (.func (.func 178) [] []) [v] A k ↔ k.run (.ret (.bool (differ xs))) A := call_iff fun k hk => by
  by_cases hu : v.under 0 = true
  · rw [k_apart rfl c178 rfl (by simp [F178]) (by simp [hu])]
    have hv0 : Readable [] 1 v (xs.map .str) := by
      rcases hv with ⟨c, rfl⟩ | ⟨id, off, c, bs, rfl, _⟩
      · exact .inl ⟨c, rfl⟩
      · simp at hu
    refine b178 hv0 hx (fun f h4 => ?_)
    simp [F178, h4]
    exact hk
  · rw [k_fun rfl c178 (by simp [hu]) (by simp [F178])]
    refine b178 hv hx (fun f h4 => ?_)
    simp [F178, h4]
    exact hk

end Go.Proofs.YtgbfbhahnoafoaaGreatDoor

/- What functions over patterns come to. -/
namespace Go.Proofs.YtgbfbhahnoafoaaGreatDoor
open Go Go.Abs

variable {Λ : List LoopInfo} {A : Heap} {k : KL}

def Pat.form : Pat → Int | .mk f _ _ _ _ => f
def Pat.n : Pat → Int | .mk _ n _ _ _ => n
def Pat.text : Pat → ByteArray | .mk _ _ t _ _ => t
def Pat.parts : Pat → List Pat | .mk _ _ _ ps _ => ps

/-- As data are: lists and strings of lengths that fit, whole numbers in their range. -/
inductive Pat.Ok : Pat → Prop
  | mk {f n : Int} {t : ByteArray} {ps : List Pat} {c : Bool} (h1 : ps.length ≤ maxI) (h2 : t.size ≤ maxI) (h3 : -9223372036854775808 ≤ n ∧ n ≤ 9223372036854775807) (h4 : ∀ p ∈ ps, p.Ok) : (Pat.mk f n t ps c).Ok

theorem pat_under (p : Pat) : p.av.under 0 = true := by
  cases p with
  | mk f n t ps c => simp

theorem pat_cells (p : Pat) : p.av.cells.length = 4 := by
  cases p with
  | mk f n t ps c => simp

@[simp] theorem pat_agg (p : Pat) : AV.agg (p.av.cells.take 4) = p.av := by
  cases p with
  | mk f n t ps c => simp

mutual
/-- R01's 'WeighPat'. -/
def Pat.weigh : Pat → Int → Int
  | .mk _ _ _ ps _, left => if left < 1 then -1 else weighs ps (left - 1)
def weighs : List Pat → Int → Int
  | [], left => left
  | p :: ps, left => if 0 ≤ left then weighs ps (p.weigh left) else left
end

mutual
theorem Pat.weigh_le : ∀ (p : Pat) (left : Int), -1 ≤ left → -1 ≤ p.weigh left ∧ p.weigh left ≤ left
  | .mk _ _ _ ps _, left, h => by
    simp only [Pat.weigh]
    split
    · omega
    · have := weighs_le ps (left - 1) (by omega)
      omega
theorem weighs_le : ∀ (ps : List Pat) (left : Int), -1 ≤ left → -1 ≤ weighs ps left ∧ weighs ps left ≤ left
  | [], left, h => by simp [weighs]; omega
  | p :: ps, left, h => by
    simp only [weighs]
    split
    · have h1 := Pat.weigh_le p left h
      have h2 := weighs_le ps (p.weigh left) h1.1
      omega
    · omega
end

theorem s125 : ∀ (p : Pat), p.Ok → ∀ (left : Int), -1 ≤ left → left ≤ 1000000 → Comes 125 [p.av, iA left] (iA (p.weigh left))
  | .mk fm n t ps c, hok, left, hl, hu, Λ, A, k => call_iff fun k hk => by
    obtain ⟨h1, h2, h3, h4⟩ := hok
    unfold maxI at h1
    rw [k_apart rfl c125 rfl (by simp [F125]) (by simp)]
    by_cases hlt : left < 1
    · simp [F125, hlt]
      simpa [Pat.weigh, hlt] using hk
    · have hw : IntKind.i64.wrap (left - 1) = left - 1 := wrap_i64 (by omega) (by omega)
      simp [F125, hlt, hw]
      refine k_for (fun j f B => B = [.cells 4 [(Pat.mk fm n t ps c).av]] ∧ f 2 = .ptr 0 0 0 ∧ f 5 = iA j ∧ ∃ l : Int, f 1 = iA l ∧ -1 ≤ l ∧ l ≤ 1000000 ∧ weighs (ps.drop j) l = weighs ps (left - 1)) ps.length ⟨by simp, by simp, by simp, left - 1, by simp, by omega, by omega, by simp⟩ ?_
      rintro j f B hj ⟨rfl, h2', h5, l, h1', hl1, hl2, hp⟩
      by_cases hjl : j < ps.length
      · by_cases hl0 : 0 ≤ l
        · have hin : ps[j] ∈ ps := List.getElem_mem hjl
          have ih := s125 ps[j] (h4 _ hin) l hl1 hl2
          have hb := Pat.weigh_le ps[j] l hl1
          simp [h2', h5, h1', hjl, hl0, pat_cells, ih, wrap_succ (j := j) (by omega)]
          refine ⟨by omega, _, rfl, by simp, by simp [h2'], by simp, ps[j].weigh l, by simp, hb.1, by omega, ?_⟩
          rw [← hp, List.drop_eq_getElem_cons hjl]
          simp [weighs, hl0]
        · have : weighs ps (left - 1) = l := by
            rw [← hp, List.drop_eq_getElem_cons hjl]
            simp [weighs, hl0]
          simp [h2', h5, h1', hjl, hl0, F125]
          simpa [Pat.weigh, hlt, this] using hk
      · have : weighs ps (left - 1) = l := by
          rw [← hp, List.drop_eq_nil_of_le (by omega)]
          simp [weighs]
        simp [h2', h5, h1', hjl, F125]
        simpa [Pat.weigh, hlt, this] using hk
termination_by p => SizeOf.sizeOf p
decreasing_by
  have := List.sizeOf_lt_of_mem hin
  simp; omega

mutual
def Pat.small : Pat → Bool
  | .mk _ _ t ps _ => smalls ps && decide ((t.size : Int) ≤ 30)
def smalls : List Pat → Bool
  | [] => true
  | p :: ps => p.small && smalls ps
end

theorem smalls_drop {ps : List Pat} {j : Nat} (h : j < ps.length) : smalls (ps.drop j) = (ps[j].small && smalls (ps.drop (j + 1))) := by
  rw [List.drop_eq_getElem_cons h]; rfl

theorem s153 : ∀ (p : Pat), p.Ok → Comes 153 [p.av] (.bool p.small)
  | .mk fm n t ps c, hok, Λ, A, k => call_iff fun k hk => by
    obtain ⟨h1, h2, h3, h4⟩ := hok
    unfold maxI at h1
    rw [k_apart rfl c153 rfl (by simp [F153]) (by simp)]
    simp [F153]
    refine k_for (fun j f B => B = [.cells 4 [(Pat.mk fm n t ps c).av]] ∧ f 1 = .ptr 0 0 0 ∧ f 3 = iA j ∧ smalls ps = smalls (ps.drop j)) ps.length ⟨by simp, by simp, by simp, by simp⟩ ?_
    rintro j f B hj ⟨rfl, h1', h3', hp⟩
    by_cases hjl : j < ps.length
    · have hin : ps[j] ∈ ps := List.getElem_mem hjl
      have ih := s153 ps[j] (h4 _ hin)
      rw [smalls_drop hjl] at hp
      cases hs : ps[j].small with
      | true =>
        rw [hs] at ih hp
        simp [h1', h3', hjl, pat_cells, ih, wrap_succ (j := j) (by omega)]
        exact ⟨by omega, _, rfl, by simp, by simp [h1'], by simp, by simpa using hp⟩
      | false =>
        rw [hs] at ih hp
        simp [h1', h3', hjl, pat_cells, ih, F153]
        simpa [Pat.small, hp] using hk
    · rw [List.drop_eq_nil_of_le (by omega)] at hp
      simp [h1', h3', hjl, F153]
      simpa [Pat.small, hp, smalls] using hk
termination_by p => SizeOf.sizeOf p
decreasing_by
  have := List.sizeOf_lt_of_mem hin
  simp; omega

/-- R01's 'SmallPat'. -/
def Pat.Small (p : Pat) : Bool := decide (0 ≤ p.weigh 16) && p.small

theorem s113 (p : Pat) (h : p.Ok) : Comes 113 [p.av] (.bool p.Small) := fun Λ A k => by
  rw [k_apart rfl c113 rfl (by simp [F113]) (by simp [pat_under])]
  have e1 := s125 p h 16 (by omega) (by omega)
  have e2 := s153 p h
  unfold Pat.Small
  obtain ⟨fm, n, t, ps, c⟩ := p
  by_cases hw : 0 ≤ (Pat.mk fm n t ps c).weigh 16
  · simp at e1 e2
    simp [F113, e1, e2, hw]
  · simp at e1 e2
    simp [F113, e1, hw]

mutual
def Pat.size : Pat → Int
  | .mk _ _ _ ps _ => 1 + sizes ps
def sizes : List Pat → Int
  | [] => 0
  | p :: ps => p.size + sizes ps
end

mutual
theorem Pat.size_pos : ∀ p : Pat, 1 ≤ p.size
  | .mk _ _ _ ps _ => by have := sizes_pos ps; simp only [Pat.size]; omega
theorem sizes_pos : ∀ ps : List Pat, 0 ≤ sizes ps
  | [] => by simp [sizes]
  | p :: ps => by have := Pat.size_pos p; have := sizes_pos ps; simp only [sizes]; omega
end

mutual
theorem Pat.weigh_size : ∀ (p : Pat) (left : Int), 0 ≤ p.weigh left → p.weigh left = left - p.size
  | .mk _ _ _ ps _, left, h => by
    simp only [Pat.weigh, Pat.size] at h ⊢
    split at h
    · omega
    · rename_i hl
      rw [if_neg hl, weighs_size ps _ h]; omega
theorem weighs_size : ∀ (ps : List Pat) (left : Int), 0 ≤ weighs ps left → weighs ps left = left - sizes ps
  | [], left, h => by simp [weighs, sizes]
  | p :: ps, left, h => by
    simp only [weighs, sizes] at h ⊢
    split at h
    · rename_i hl
      rw [if_pos hl]
      have h1 := weighs_size ps _ h
      have h2 := sizes_pos ps
      have h3 := Pat.weigh_size p left (by omega)
      omega
    · omega
end

theorem Pat.size_of_small {p : Pat} (h : p.Small = true) : p.size ≤ 16 := by
  simp only [Pat.Small, Bool.and_eq_true, decide_eq_true_eq] at h
  have := p.weigh_size 16 h.1
  omega

mutual
/-- How many names a pattern has. -/
def Pat.names : Pat → Int
  | .mk f _ _ ps _ => (if f = 2 then 1 else 0) + namess ps
def namess : List Pat → Int
  | [] => 0
  | p :: ps => p.names + namess ps
end

mutual
theorem Pat.names_le : ∀ p : Pat, 0 ≤ p.names ∧ p.names ≤ p.size
  | .mk f _ _ ps _ => by
    have := namess_le ps
    simp only [Pat.names, Pat.size]
    split <;> omega
theorem namess_le : ∀ ps : List Pat, 0 ≤ namess ps ∧ namess ps ≤ sizes ps
  | [] => by simp [namess, sizes]
  | p :: ps => by
    have := Pat.names_le p
    have := namess_le ps
    simp only [namess, sizes]; omega
end

theorem sizes_mem {p : Pat} : ∀ {ps : List Pat}, p ∈ ps → p.size ≤ sizes ps
  | q :: ps, h => by
    have := sizes_pos ps
    have := Pat.size_pos q
    simp only [sizes]
    rcases List.mem_cons.1 h with rfl | h
    · omega
    · have := sizes_mem h; omega

theorem drop_names {ps : List Pat} {j : Nat} (h : j < ps.length) : namess (ps.drop j) = ps[j].names + namess (ps.drop (j + 1)) ∧ sizes (ps.drop j) = ps[j].size + sizes (ps.drop (j + 1)) := by
  rw [List.drop_eq_getElem_cons h]; exact ⟨rfl, rfl⟩

/-- R05's 'Names'. -/
theorem s136 : ∀ (p : Pat), p.Ok → p.size ≤ 1000 → Comes 136 [p.av] (iA p.names)
  | .mk fm n t ps c, hok, hsz, Λ, A, k => call_iff fun k hk => by
    obtain ⟨h1, h2, h3, h4⟩ := hok
    unfold maxI at h1
    rw [k_apart rfl c136 rfl (by simp [F136]) (by simp)]
    simp only [Pat.size] at hsz
    by_cases hf : fm = 2
    all_goals
      simp [F136, hf]
      refine k_for (fun j f B => B = [.cells 4 [(Pat.mk fm n t ps c).av]] ∧ f 1 = .ptr 0 0 0 ∧ f 4 = iA j ∧ ∃ l : Int, f 3 = iA l ∧ 0 ≤ l ∧ l + sizes (ps.drop j) ≤ 1000 ∧ l + namess (ps.drop j) = (Pat.mk fm n t ps c).names) ps.length ⟨by simp [hf], by simp, by simp, (if fm = 2 then 1 else 0), by simp [hf], by split <;> omega, by simp; split <;> omega, by simp [Pat.names]⟩ ?_
      rintro j f B hj ⟨rfl, h1', h4', l, h3', hl0, hl1, hp⟩
      by_cases hjl : j < ps.length
      · have hin : ps[j] ∈ ps := List.getElem_mem hjl
        have := sizes_mem hin
        have ih := s136 ps[j] (h4 _ hin) (by omega)
        obtain ⟨e1, e2⟩ := drop_names hjl
        have hn := ps[j].names_le
        have hs := sizes_pos (ps.drop (j + 1))
        have hw : IntKind.i64.wrap (l + ps[j].names) = l + ps[j].names := wrap_i64 (by omega) (by omega)
        simp [h1', h4', h3', hjl, pat_cells, ih, hw, wrap_succ (j := j) (by omega)]
        exact ⟨by omega, _, rfl, by simp, by simp [h1'], by simp, l + ps[j].names, by simp, by omega, by omega, by omega⟩
      · rw [List.drop_eq_nil_of_le (by omega)] at hp
        simp only [namess] at hp
        simp [h1', h4', h3', hjl, F136]
        have : l = (Pat.mk fm n t ps c).names := by omega
        rw [this]; exact hk
termination_by p => SizeOf.sizeOf p
decreasing_by
  all_goals
    have := List.sizeOf_lt_of_mem hin
    simp; omega


theorem s205 : ∀ (p : Pat), p.Ok → p.size ≤ 1000 → Comes 205 [p.av] (iA p.names)
  | .mk fm n t ps c, hok, hsz, Λ, A, k => call_iff fun k hk => by
    obtain ⟨h1, h2, h3, h4⟩ := hok
    unfold maxI at h1
    rw [k_apart rfl c205 rfl (by simp [F205]) (by simp)]
    simp only [Pat.size] at hsz
    by_cases hf : fm = 2
    all_goals
      simp [F205, hf]
      refine k_for (fun j f B => f 10 = .frz (ps.map Pat.av) c ∧ f 11 = iA ps.length ∧ f 12 = iA j ∧ ∃ l : Int, f 3 = iA l ∧ 0 ≤ l ∧ l + sizes (ps.drop j) ≤ 1000 ∧ l + namess (ps.drop j) = (Pat.mk fm n t ps c).names) ps.length ⟨by simp, by simp, by simp, (if fm = 2 then 1 else 0), by simp [hf], by split <;> omega, by simp; split <;> omega, by simp [Pat.names]⟩ ?_
      rintro j f B hj ⟨h10, h11, h12, l, h3', hl0, hl1, hp⟩
      by_cases hjl : j < ps.length
      · have hin : ps[j] ∈ ps := List.getElem_mem hjl
        have := sizes_mem hin
        have ih := s205 ps[j] (h4 _ hin) (by omega)
        obtain ⟨e1, e2⟩ := drop_names hjl
        have hn := ps[j].names_le
        have hs := sizes_pos (ps.drop (j + 1))
        have hw : IntKind.i64.wrap (l + ps[j].names) = l + ps[j].names := wrap_i64 (by omega) (by omega)
        obtain ⟨qf, qn, qt, qp, qc, hq⟩ : ∃ qf qn qt qp qc, ps[j] = Pat.mk qf qn qt qp qc := by
          cases ps[j] with
          | mk a b c d e => exact ⟨a, b, c, d, e, rfl⟩
        rw [hq, Pat.av_mk] at ih
        rw [hq] at hw
        simp [h10, h11, h12, h3', hjl, hq, ih, hw, wrap_succ (j := j) (by omega)]
        exact ⟨by omega, _, rfl, by simp [h10], by simp [h11], by simp, l + ps[j].names, by simp [hq], by omega, by omega, by omega⟩
      · rw [List.drop_eq_nil_of_le (by omega)] at hp
        simp only [namess] at hp
        simp [h11, h12, h3', hjl, F205]
        have : l = (Pat.mk fm n t ps c).names := by omega
        rw [this]; exact hk
termination_by p => SizeOf.sizeOf p
decreasing_by
  all_goals
    have := List.sizeOf_lt_of_mem hin
    simp; omega

theorem s169 : ∀ (p : Pat), p.Ok → p.size ≤ 1000 → Comes 169 [p.av] (iA p.names)
  | .mk fm n t ps c, hok, hsz, Λ, A, k => call_iff fun k hk => by
    obtain ⟨h1, h2, h3, h4⟩ := hok
    unfold maxI at h1
    rw [k_apart rfl c169 rfl (by simp [F169]) (by simp)]
    simp only [Pat.size] at hsz
    by_cases hf : fm = 2
    all_goals
      simp [F169, hf]
      refine k_for (fun j f B => f 10 = .frz (ps.map Pat.av) c ∧ f 11 = iA ps.length ∧ f 12 = iA j ∧ ∃ l : Int, f 3 = iA l ∧ 0 ≤ l ∧ l + sizes (ps.drop j) ≤ 1000 ∧ l + namess (ps.drop j) = (Pat.mk fm n t ps c).names) ps.length ⟨by simp, by simp, by simp, (if fm = 2 then 1 else 0), by simp [hf], by split <;> omega, by simp; split <;> omega, by simp [Pat.names]⟩ ?_
      rintro j f B hj ⟨h10, h11, h12, l, h3', hl0, hl1, hp⟩
      by_cases hjl : j < ps.length
      · have hin : ps[j] ∈ ps := List.getElem_mem hjl
        have := sizes_mem hin
        have ih := s169 ps[j] (h4 _ hin) (by omega)
        obtain ⟨e1, e2⟩ := drop_names hjl
        have hn := ps[j].names_le
        have hs := sizes_pos (ps.drop (j + 1))
        have hw : IntKind.i64.wrap (l + ps[j].names) = l + ps[j].names := wrap_i64 (by omega) (by omega)
        obtain ⟨qf, qn, qt, qp, qc, hq⟩ : ∃ qf qn qt qp qc, ps[j] = Pat.mk qf qn qt qp qc := by
          cases ps[j] with
          | mk a b c d e => exact ⟨a, b, c, d, e, rfl⟩
        rw [hq, Pat.av_mk] at ih
        rw [hq] at hw
        simp [h10, h11, h12, h3', hjl, hq, ih, hw, wrap_succ (j := j) (by omega)]
        exact ⟨by omega, _, rfl, by simp [h10], by simp [h11], by simp, l + ps[j].names, by simp [hq], by omega, by omega, by omega⟩
      · rw [List.drop_eq_nil_of_le (by omega)] at hp
        simp only [namess] at hp
        simp [h11, h12, h3', hjl, F169]
        have : l = (Pat.mk fm n t ps c).names := by omega
        rw [this]; exact hk
termination_by p => SizeOf.sizeOf p
decreasing_by
  all_goals
    have := List.sizeOf_lt_of_mem hin
    simp; omega

theorem weighs_neg : ∀ (ps : List Pat) (l : Int), l < 0 → weighs ps l = l
  | [], l, _ => rfl
  | p :: ps, l, h => by simp only [weighs]; rw [if_neg (by omega)]

/-- code's 'few' says the same as R01's 'WeighPat'. -/
theorem s184 : ∀ (p : Pat), p.Ok → ∀ (left : Int), 0 ≤ left → left ≤ 1000000 → Comes 184 [p.av, iA left] (iA (p.weigh left))
  | .mk fm n t ps c, hok, left, hl, hu, Λ, A, k => call_iff fun k hk => by
    obtain ⟨h1, h2, h3, h4⟩ := hok
    unfold maxI at h1
    rw [k_apart rfl c184 rfl (by simp [F184]) (by simp)]
    have hw : IntKind.i64.wrap (left - 1) = left - 1 := wrap_i64 (by omega) (by omega)
    have hwe : (Pat.mk fm n t ps c).weigh left = weighs ps (left - 1) := by
      simp only [Pat.weigh]
      split
      · rw [weighs_neg _ _ (by omega)]; omega
      · rfl
    simp [F184, hw]
    refine k_for (fun j f B => f 10 = .frz (ps.map Pat.av) c ∧ f 11 = iA ps.length ∧ f 12 = iA j ∧ ∃ l : Int, f 1 = iA l ∧ -1 ≤ l ∧ l ≤ 1000000 ∧ weighs (ps.drop j) l = weighs ps (left - 1)) ps.length ⟨by simp, by simp, by simp, left - 1, by simp, by omega, by omega, by simp⟩ ?_
    rintro j f B hj ⟨h10, h11, h12, l, h1', hl1, hl2, hp⟩
    by_cases hjl : j < ps.length
    · obtain ⟨qf, qn, qt, qp, qc, hq⟩ : ∃ qf qn qt qp qc, ps[j] = Pat.mk qf qn qt qp qc := by
        cases ps[j] with
        | mk a b c d e => exact ⟨a, b, c, d, e, rfl⟩
      by_cases hl0 : l < 0
      · have : weighs ps (left - 1) = l := by rw [← hp, weighs_neg _ _ hl0]
        simp [h10, h11, h12, h1', hjl, hq, hl0, F184]
        rw [hwe, this] at hk
        exact hk
      · have hin : ps[j] ∈ ps := List.getElem_mem hjl
        have ih := s184 ps[j] (h4 _ hin) l (by omega) hl2
        have hb := Pat.weigh_le ps[j] l hl1
        rw [hq, Pat.av_mk] at ih
        simp [h10, h11, h12, h1', hjl, hq, hl0, ih, wrap_succ (j := j) (by omega)]
        refine ⟨by omega, _, rfl, by simp [h10], by simp [h11], by simp, ps[j].weigh l, by simp [hq], hb.1, by omega, ?_⟩
        rw [← hp, List.drop_eq_getElem_cons hjl]
        simp only [weighs]
        rw [if_pos (by omega)]
    · have : weighs ps (left - 1) = l := by
        rw [← hp, List.drop_eq_nil_of_le (by omega)]
        simp [weighs]
      simp [h11, h12, h1', hjl, F184]
      rw [hwe, this] at hk
      exact hk
termination_by p => SizeOf.sizeOf p
decreasing_by
  have := List.sizeOf_lt_of_mem hin
  simp; omega

end Go.Proofs.YtgbfbhahnoafoaaGreatDoor
