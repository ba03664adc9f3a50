/-
  Walks: the law of a game.
-/
import Derived.Test.YtmannilblelfjaaDoorPlain27
import Derived.Test.YtmannilblelfjaaDoorGamesM
import Derived.Test.YtmannilblelfjaaDoorDrawsD
import Derived.Test.YtmannilblelfjaaDoorBase
namespace Go.Proofs.YtmannilblelfjaaDoor
open Go.RowKit Go.Wk
set_option linter.unusedSimpArgs false

def lawFnSecondWins_o17x : OV := (.one 3 (.one 5 (.one 8 (.one 12 (.one 15 (.one 18 (.take 19 (.take 20 .done))))))))
theorem lawFnSecondWins_o17x_c : ovB (opsOf 17 Tryd.f5.body) lawFnSecondWins_o17x 8 true #[true, true, true, false, true, false, true, true, false, true, true, true, false, true, true, false, true, true, false, false, false] = true := (ovB_one (by kernel_rfl) (ovB_one (by kernel_rfl) (ovB_one (by kernel_rfl) (ovB_one (by kernel_rfl) (ovB_one (by kernel_rfl) (ovB_one (by kernel_rfl) (ovB_take (by kernel_rfl) (ovB_take (by kernel_rfl) (ovB_done (by kernel_rfl))))))))))
def lawFnSecondWins_o17_1x : OV := (.one 5 (.one 8 (.one 12 (.one 15 (.one 18 (.take 19 (.take 20 .done)))))))
theorem lawFnSecondWins_o17_1x_c : ovB (opsOf 17 Tryd.f5.body) lawFnSecondWins_o17_1x 7 true #[true, true, true, true, true, false, true, true, false, true, true, true, false, true, true, false, true, true, false, false, false] = true := (ovB_one (by kernel_rfl) (ovB_one (by kernel_rfl) (ovB_one (by kernel_rfl) (ovB_one (by kernel_rfl) (ovB_one (by kernel_rfl) (ovB_take (by kernel_rfl) (ovB_take (by kernel_rfl) (ovB_done (by kernel_rfl)))))))))
def lawFnSecondWins_o17_2x : OV := (.one 7 (.one 8 (.one 12 (.one 15 (.one 18 (.take 19 (.take 20 .done)))))))
theorem lawFnSecondWins_o17_2x_c : ovB (opsOf 17 Tryd.f5.body) lawFnSecondWins_o17_2x 7 true #[true, true, true, true, true, true, true, false, false, true, true, true, false, true, true, false, true, true, false, false, false] = true := (ovB_one (by kernel_rfl) (ovB_one (by kernel_rfl) (ovB_one (by kernel_rfl) (ovB_one (by kernel_rfl) (ovB_one (by kernel_rfl) (ovB_take (by kernel_rfl) (ovB_take (by kernel_rfl) (ovB_done (by kernel_rfl)))))))))
def lawFnSecondWins_o17_3x : OV := (.alt 5 lawFnSecondWins_o17_2x (.one 7 lawFnSecondWins_o17_1x))
theorem lawFnSecondWins_o17_3x_c : ovB (opsOf 17 Tryd.f5.body) lawFnSecondWins_o17_3x 8 true #[true, true, true, true, true, false, true, false, false, true, true, true, false, true, true, false, true, true, false, false, false] = true := (ovB_alt (by kernel_rfl) (ovB_at (by kernel_rfl) lawFnSecondWins_o17_2x_c) (ovB_last (ovB_at (by kernel_rfl) lawFnSecondWins_o17_1x_c)))
def lawFnSecondWins_o17_4x : OV := (.alt 3 lawFnSecondWins_o17_3x (.one 7 lawFnSecondWins_o17x))
theorem lawFnSecondWins_o17_4x_c : ovB (opsOf 17 Tryd.f5.body) lawFnSecondWins_o17_4x 9 true #[true, true, true, false, true, false, true, false, false, true, true, true, false, true, true, false, true, true, false, false, false] = true := (ovB_alt (by kernel_rfl) (ovB_at (by kernel_rfl) lawFnSecondWins_o17_3x_c) (ovB_last (ovB_at (by kernel_rfl) lawFnSecondWins_o17x_c)))
def lawFnSecondWins_o17_5x : OV := (.one 8 (.one 12 (.one 15 (.one 18 (.take 19 (.take 20 .done))))))
theorem lawFnSecondWins_o17_5x_c : ovB (opsOf 17 Tryd.f5.body) lawFnSecondWins_o17_5x 6 true #[true, true, true, true, true, true, true, true, false, true, true, true, false, true, true, false, true, true, false, false, false] = true := (ovB_one (by kernel_rfl) (ovB_one (by kernel_rfl) (ovB_one (by kernel_rfl) (ovB_one (by kernel_rfl) (ovB_take (by kernel_rfl) (ovB_take (by kernel_rfl) (ovB_done (by kernel_rfl))))))))
def lawFnSecondWins_o17_6x : OV := (.one 10 (.one 12 (.one 15 (.one 18 (.take 19 (.take 20 .done))))))
theorem lawFnSecondWins_o17_6x_c : ovB (opsOf 17 Tryd.f5.body) lawFnSecondWins_o17_6x 6 true #[true, true, true, true, true, true, true, true, true, true, false, true, false, true, true, false, true, true, false, false, false] = true := (ovB_one (by kernel_rfl) (ovB_one (by kernel_rfl) (ovB_one (by kernel_rfl) (ovB_one (by kernel_rfl) (ovB_take (by kernel_rfl) (ovB_take (by kernel_rfl) (ovB_done (by kernel_rfl))))))))
def lawFnSecondWins_o17_7x : OV := (.alt 8 lawFnSecondWins_o17_6x (.one 10 lawFnSecondWins_o17_5x))
theorem lawFnSecondWins_o17_7x_c : ovB (opsOf 17 Tryd.f5.body) lawFnSecondWins_o17_7x 7 true #[true, true, true, true, true, true, true, true, false, true, false, true, false, true, true, false, true, true, false, false, false] = true := (ovB_alt (by kernel_rfl) (ovB_at (by kernel_rfl) lawFnSecondWins_o17_6x_c) (ovB_last (ovB_at (by kernel_rfl) lawFnSecondWins_o17_5x_c)))
def lawFnSecondWins_o17_8x : OV := (.alt 5 lawFnSecondWins_o17_7x (.one 10 lawFnSecondWins_o17_1x))
theorem lawFnSecondWins_o17_8x_c : ovB (opsOf 17 Tryd.f5.body) lawFnSecondWins_o17_8x 8 true #[true, true, true, true, true, false, true, true, false, true, false, true, false, true, true, false, true, true, false, false, false] = true := (ovB_alt (by kernel_rfl) (ovB_at (by kernel_rfl) lawFnSecondWins_o17_7x_c) (ovB_last (ovB_at (by kernel_rfl) lawFnSecondWins_o17_1x_c)))
def lawFnSecondWins_o17_9x : OV := (.alt 3 lawFnSecondWins_o17_8x (.one 10 lawFnSecondWins_o17x))
theorem lawFnSecondWins_o17_9x_c : ovB (opsOf 17 Tryd.f5.body) lawFnSecondWins_o17_9x 9 true #[true, true, true, false, true, false, true, true, false, true, false, true, false, true, true, false, true, true, false, false, false] = true := (ovB_alt (by kernel_rfl) (ovB_at (by kernel_rfl) lawFnSecondWins_o17_8x_c) (ovB_last (ovB_at (by kernel_rfl) lawFnSecondWins_o17x_c)))
def lawFnSecondWins_o17_10x : OV := (.alt 7 lawFnSecondWins_o17_7x (.one 10 lawFnSecondWins_o17_2x))
theorem lawFnSecondWins_o17_10x_c : ovB (opsOf 17 Tryd.f5.body) lawFnSecondWins_o17_10x 8 true #[true, true, true, true, true, true, true, false, false, true, false, true, false, true, true, false, true, true, false, false, false] = true := (ovB_alt (by kernel_rfl) (ovB_at (by kernel_rfl) lawFnSecondWins_o17_7x_c) (ovB_last (ovB_at (by kernel_rfl) lawFnSecondWins_o17_2x_c)))
def lawFnSecondWins_o17_11x : OV := (.alt 5 lawFnSecondWins_o17_10x (.alt 7 lawFnSecondWins_o17_8x (.one 10 lawFnSecondWins_o17_3x)))
theorem lawFnSecondWins_o17_11x_c : ovB (opsOf 17 Tryd.f5.body) lawFnSecondWins_o17_11x 9 true #[true, true, true, true, true, false, true, false, false, true, false, true, false, true, true, false, true, true, false, false, false] = true := (ovB_alt (by kernel_rfl) (ovB_at (by kernel_rfl) lawFnSecondWins_o17_10x_c) (ovB_next (ovB_at (by kernel_rfl) lawFnSecondWins_o17_8x_c) (ovB_last (ovB_at (by kernel_rfl) lawFnSecondWins_o17_3x_c))))
def lawFnSecondWins_o17_12x : OV := (.alt 3 lawFnSecondWins_o17_11x (.alt 7 lawFnSecondWins_o17_9x (.one 10 lawFnSecondWins_o17_4x)))
theorem lawFnSecondWins_o17_12x_c : ovB (opsOf 17 Tryd.f5.body) lawFnSecondWins_o17_12x 10 true #[true, true, true, false, true, false, true, false, false, true, false, true, false, true, true, false, true, true, false, false, false] = true := (ovB_alt (by kernel_rfl) (ovB_at (by kernel_rfl) lawFnSecondWins_o17_11x_c) (ovB_next (ovB_at (by kernel_rfl) lawFnSecondWins_o17_9x_c) (ovB_last (ovB_at (by kernel_rfl) lawFnSecondWins_o17_4x_c))))
def lawFnSecondWins_o17_13x : OV := (.one 12 (.one 15 (.one 18 (.take 19 (.take 20 .done)))))
theorem lawFnSecondWins_o17_13x_c : ovB (opsOf 17 Tryd.f5.body) lawFnSecondWins_o17_13x 5 true #[true, true, true, true, true, true, true, true, true, true, true, true, false, true, true, false, true, true, false, false, false] = true := (ovB_one (by kernel_rfl) (ovB_one (by kernel_rfl) (ovB_one (by kernel_rfl) (ovB_take (by kernel_rfl) (ovB_take (by kernel_rfl) (ovB_done (by kernel_rfl)))))))
def lawFnSecondWins_o17_14x : OV := (.one 14 (.one 15 (.one 18 (.take 19 (.take 20 .done)))))
theorem lawFnSecondWins_o17_14x_c : ovB (opsOf 17 Tryd.f5.body) lawFnSecondWins_o17_14x 5 true #[true, true, true, true, true, true, true, true, true, true, true, true, true, true, false, false, true, true, false, false, false] = true := (ovB_one (by kernel_rfl) (ovB_one (by kernel_rfl) (ovB_one (by kernel_rfl) (ovB_take (by kernel_rfl) (ovB_take (by kernel_rfl) (ovB_done (by kernel_rfl)))))))
def lawFnSecondWins_o17_15x : OV := (.alt 12 lawFnSecondWins_o17_14x (.one 14 lawFnSecondWins_o17_13x))
theorem lawFnSecondWins_o17_15x_c : ovB (opsOf 17 Tryd.f5.body) lawFnSecondWins_o17_15x 6 true #[true, true, true, true, true, true, true, true, true, true, true, true, false, true, false, false, true, true, false, false, false] = true := (ovB_alt (by kernel_rfl) (ovB_at (by kernel_rfl) lawFnSecondWins_o17_14x_c) (ovB_last (ovB_at (by kernel_rfl) lawFnSecondWins_o17_13x_c)))
def lawFnSecondWins_o17_16x : OV := (.alt 8 lawFnSecondWins_o17_15x (.one 14 lawFnSecondWins_o17_5x))
theorem lawFnSecondWins_o17_16x_c : ovB (opsOf 17 Tryd.f5.body) lawFnSecondWins_o17_16x 7 true #[true, true, true, true, true, true, true, true, false, true, true, true, false, true, false, false, true, true, false, false, false] = true := (ovB_alt (by kernel_rfl) (ovB_at (by kernel_rfl) lawFnSecondWins_o17_15x_c) (ovB_last (ovB_at (by kernel_rfl) lawFnSecondWins_o17_5x_c)))
def lawFnSecondWins_o17_17x : OV := (.alt 5 lawFnSecondWins_o17_16x (.one 14 lawFnSecondWins_o17_1x))
theorem lawFnSecondWins_o17_17x_c : ovB (opsOf 17 Tryd.f5.body) lawFnSecondWins_o17_17x 8 true #[true, true, true, true, true, false, true, true, false, true, true, true, false, true, false, false, true, true, false, false, false] = true := (ovB_alt (by kernel_rfl) (ovB_at (by kernel_rfl) lawFnSecondWins_o17_16x_c) (ovB_last (ovB_at (by kernel_rfl) lawFnSecondWins_o17_1x_c)))
def lawFnSecondWins_o17_18x : OV := (.alt 3 lawFnSecondWins_o17_17x (.one 14 lawFnSecondWins_o17x))
theorem lawFnSecondWins_o17_18x_c : ovB (opsOf 17 Tryd.f5.body) lawFnSecondWins_o17_18x 9 true #[true, true, true, false, true, false, true, true, false, true, true, true, false, true, false, false, true, true, false, false, false] = true := (ovB_alt (by kernel_rfl) (ovB_at (by kernel_rfl) lawFnSecondWins_o17_17x_c) (ovB_last (ovB_at (by kernel_rfl) lawFnSecondWins_o17x_c)))
def lawFnSecondWins_o17_19x : OV := (.alt 7 lawFnSecondWins_o17_16x (.one 14 lawFnSecondWins_o17_2x))
theorem lawFnSecondWins_o17_19x_c : ovB (opsOf 17 Tryd.f5.body) lawFnSecondWins_o17_19x 8 true #[true, true, true, true, true, true, true, false, false, true, true, true, false, true, false, false, true, true, false, false, false] = true := (ovB_alt (by kernel_rfl) (ovB_at (by kernel_rfl) lawFnSecondWins_o17_16x_c) (ovB_last (ovB_at (by kernel_rfl) lawFnSecondWins_o17_2x_c)))
def lawFnSecondWins_o17_20x : OV := (.alt 5 lawFnSecondWins_o17_19x (.alt 7 lawFnSecondWins_o17_17x (.one 14 lawFnSecondWins_o17_3x)))
theorem lawFnSecondWins_o17_20x_c : ovB (opsOf 17 Tryd.f5.body) lawFnSecondWins_o17_20x 9 true #[true, true, true, true, true, false, true, false, false, true, true, true, false, true, false, false, true, true, false, false, false] = true := (ovB_alt (by kernel_rfl) (ovB_at (by kernel_rfl) lawFnSecondWins_o17_19x_c) (ovB_next (ovB_at (by kernel_rfl) lawFnSecondWins_o17_17x_c) (ovB_last (ovB_at (by kernel_rfl) lawFnSecondWins_o17_3x_c))))
def lawFnSecondWins_o17_21x : OV := (.alt 3 lawFnSecondWins_o17_20x (.alt 7 lawFnSecondWins_o17_18x (.one 14 lawFnSecondWins_o17_4x)))
theorem lawFnSecondWins_o17_21x_c : ovB (opsOf 17 Tryd.f5.body) lawFnSecondWins_o17_21x 10 true #[true, true, true, false, true, false, true, false, false, true, true, true, false, true, false, false, true, true, false, false, false] = true := (ovB_alt (by kernel_rfl) (ovB_at (by kernel_rfl) lawFnSecondWins_o17_20x_c) (ovB_next (ovB_at (by kernel_rfl) lawFnSecondWins_o17_18x_c) (ovB_last (ovB_at (by kernel_rfl) lawFnSecondWins_o17_4x_c))))
def lawFnSecondWins_o17_22x : OV := (.alt 10 lawFnSecondWins_o17_15x (.one 14 lawFnSecondWins_o17_6x))
theorem lawFnSecondWins_o17_22x_c : ovB (opsOf 17 Tryd.f5.body) lawFnSecondWins_o17_22x 7 true #[true, true, true, true, true, true, true, true, true, true, false, true, false, true, false, false, true, true, false, false, false] = true := (ovB_alt (by kernel_rfl) (ovB_at (by kernel_rfl) lawFnSecondWins_o17_15x_c) (ovB_last (ovB_at (by kernel_rfl) lawFnSecondWins_o17_6x_c)))
def lawFnSecondWins_o17_23x : OV := (.alt 8 lawFnSecondWins_o17_22x (.alt 10 lawFnSecondWins_o17_16x (.one 14 lawFnSecondWins_o17_7x)))
theorem lawFnSecondWins_o17_23x_c : ovB (opsOf 17 Tryd.f5.body) lawFnSecondWins_o17_23x 8 true #[true, true, true, true, true, true, true, true, false, true, false, true, false, true, false, false, true, true, false, false, false] = true := (ovB_alt (by kernel_rfl) (ovB_at (by kernel_rfl) lawFnSecondWins_o17_22x_c) (ovB_next (ovB_at (by kernel_rfl) lawFnSecondWins_o17_16x_c) (ovB_last (ovB_at (by kernel_rfl) lawFnSecondWins_o17_7x_c))))
def lawFnSecondWins_o17_24x : OV := (.alt 5 lawFnSecondWins_o17_23x (.alt 10 lawFnSecondWins_o17_17x (.one 14 lawFnSecondWins_o17_8x)))
theorem lawFnSecondWins_o17_24x_c : ovB (opsOf 17 Tryd.f5.body) lawFnSecondWins_o17_24x 9 true #[true, true, true, true, true, false, true, true, false, true, false, true, false, true, false, false, true, true, false, false, false] = true := (ovB_alt (by kernel_rfl) (ovB_at (by kernel_rfl) lawFnSecondWins_o17_23x_c) (ovB_next (ovB_at (by kernel_rfl) lawFnSecondWins_o17_17x_c) (ovB_last (ovB_at (by kernel_rfl) lawFnSecondWins_o17_8x_c))))
def lawFnSecondWins_o17_25x : OV := (.alt 3 lawFnSecondWins_o17_24x (.alt 10 lawFnSecondWins_o17_18x (.one 14 lawFnSecondWins_o17_9x)))
theorem lawFnSecondWins_o17_25x_c : ovB (opsOf 17 Tryd.f5.body) lawFnSecondWins_o17_25x 10 true #[true, true, true, false, true, false, true, true, false, true, false, true, false, true, false, false, true, true, false, false, false] = true := (ovB_alt (by kernel_rfl) (ovB_at (by kernel_rfl) lawFnSecondWins_o17_24x_c) (ovB_next (ovB_at (by kernel_rfl) lawFnSecondWins_o17_18x_c) (ovB_last (ovB_at (by kernel_rfl) lawFnSecondWins_o17_9x_c))))
def lawFnSecondWins_o17_26x : OV := (.alt 7 lawFnSecondWins_o17_23x (.alt 10 lawFnSecondWins_o17_19x (.one 14 lawFnSecondWins_o17_10x)))
theorem lawFnSecondWins_o17_26x_c : ovB (opsOf 17 Tryd.f5.body) lawFnSecondWins_o17_26x 9 true #[true, true, true, true, true, true, true, false, false, true, false, true, false, true, false, false, true, true, false, false, false] = true := (ovB_alt (by kernel_rfl) (ovB_at (by kernel_rfl) lawFnSecondWins_o17_23x_c) (ovB_next (ovB_at (by kernel_rfl) lawFnSecondWins_o17_19x_c) (ovB_last (ovB_at (by kernel_rfl) lawFnSecondWins_o17_10x_c))))
def lawFnSecondWins_o17_27x : OV := (.alt 5 lawFnSecondWins_o17_26x (.alt 7 lawFnSecondWins_o17_24x (.alt 10 lawFnSecondWins_o17_20x (.one 14 lawFnSecondWins_o17_11x))))
theorem lawFnSecondWins_o17_27x_c : ovB (opsOf 17 Tryd.f5.body) lawFnSecondWins_o17_27x 10 true #[true, true, true, true, true, false, true, false, false, true, false, true, false, true, false, false, true, true, false, false, false] = true := (ovB_alt (by kernel_rfl) (ovB_at (by kernel_rfl) lawFnSecondWins_o17_26x_c) (ovB_next (ovB_at (by kernel_rfl) lawFnSecondWins_o17_24x_c) (ovB_next (ovB_at (by kernel_rfl) lawFnSecondWins_o17_20x_c) (ovB_last (ovB_at (by kernel_rfl) lawFnSecondWins_o17_11x_c)))))
def lawFnSecondWins_o17_28x : OV := (.take 0 (.take 1 (.take 2 (.take 4 (.take 6 (.take 9 (.take 11 (.take 13 (.take 16 (.take 17 (.alt 3 lawFnSecondWins_o17_27x (.alt 7 lawFnSecondWins_o17_25x (.alt 10 lawFnSecondWins_o17_21x (.one 14 lawFnSecondWins_o17_12x))))))))))))))
theorem lawFnSecondWins_o17_28x_c : ovB (opsOf 17 Tryd.f5.body) lawFnSecondWins_o17_28x 21 true #[false, false, false, false, false, false, false, false, false, false, false, false, false, false, false, false, false, false, false, false, false] = true := (ovB_take (by kernel_rfl) (ovB_take (by kernel_rfl) (ovB_take (by kernel_rfl) (ovB_take (by kernel_rfl) (ovB_take (by kernel_rfl) (ovB_take (by kernel_rfl) (ovB_take (by kernel_rfl) (ovB_take (by kernel_rfl) (ovB_take (by kernel_rfl) (ovB_take (by kernel_rfl) (ovB_alt (by kernel_rfl) (ovB_at (by kernel_rfl) lawFnSecondWins_o17_27x_c) (ovB_next (ovB_at (by kernel_rfl) lawFnSecondWins_o17_25x_c) (ovB_next (ovB_at (by kernel_rfl) lawFnSecondWins_o17_21x_c) (ovB_last (ovB_at (by kernel_rfl) lawFnSecondWins_o17_12x_c)))))))))))))))
def lawFnSecondWins_o17_29x : OV := (.take 19 (.take 20 .done))
theorem lawFnSecondWins_o17_29x_c : ovB (opsOf 17 Tryd.f5.body) lawFnSecondWins_o17_29x 2 true #[true, true, true, true, true, true, true, true, true, true, true, true, true, true, true, true, true, true, true, false, false] = true := (ovB_take (by kernel_rfl) (ovB_take (by kernel_rfl) (ovB_done (by kernel_rfl))))
def lawFnSecondWins_o26x : OV := (.one 3 (.one 5 (.one 8 (.one 12 (.one 15 (.one 18 (.take 19 (.take 20 .done))))))))
theorem lawFnSecondWins_o26x_c : ovB (opsOf 26 Tryd.f5.body) lawFnSecondWins_o26x 8 true #[true, true, true, false, true, false, true, true, false, true, true, true, false, true, true, false, true, true, false, false, false] = true := (ovB_one (by kernel_rfl) (ovB_one (by kernel_rfl) (ovB_one (by kernel_rfl) (ovB_one (by kernel_rfl) (ovB_one (by kernel_rfl) (ovB_one (by kernel_rfl) (ovB_take (by kernel_rfl) (ovB_take (by kernel_rfl) (ovB_done (by kernel_rfl))))))))))
def lawFnSecondWins_o26_1x : OV := (.one 5 (.one 8 (.one 12 (.one 15 (.one 18 (.take 19 (.take 20 .done)))))))
theorem lawFnSecondWins_o26_1x_c : ovB (opsOf 26 Tryd.f5.body) lawFnSecondWins_o26_1x 7 true #[true, true, true, true, true, false, true, true, false, true, true, true, false, true, true, false, true, true, false, false, false] = true := (ovB_one (by kernel_rfl) (ovB_one (by kernel_rfl) (ovB_one (by kernel_rfl) (ovB_one (by kernel_rfl) (ovB_one (by kernel_rfl) (ovB_take (by kernel_rfl) (ovB_take (by kernel_rfl) (ovB_done (by kernel_rfl)))))))))
def lawFnSecondWins_o26_2x : OV := (.one 7 (.one 8 (.one 12 (.one 15 (.one 18 (.take 19 (.take 20 .done)))))))
theorem lawFnSecondWins_o26_2x_c : ovB (opsOf 26 Tryd.f5.body) lawFnSecondWins_o26_2x 7 true #[true, true, true, true, true, true, true, false, false, true, true, true, false, true, true, false, true, true, false, false, false] = true := (ovB_one (by kernel_rfl) (ovB_one (by kernel_rfl) (ovB_one (by kernel_rfl) (ovB_one (by kernel_rfl) (ovB_one (by kernel_rfl) (ovB_take (by kernel_rfl) (ovB_take (by kernel_rfl) (ovB_done (by kernel_rfl)))))))))
def lawFnSecondWins_o26_3x : OV := (.alt 5 lawFnSecondWins_o26_2x (.one 7 lawFnSecondWins_o26_1x))
theorem lawFnSecondWins_o26_3x_c : ovB (opsOf 26 Tryd.f5.body) lawFnSecondWins_o26_3x 8 true #[true, true, true, true, true, false, true, false, false, true, true, true, false, true, true, false, true, true, false, false, false] = true := (ovB_alt (by kernel_rfl) (ovB_at (by kernel_rfl) lawFnSecondWins_o26_2x_c) (ovB_last (ovB_at (by kernel_rfl) lawFnSecondWins_o26_1x_c)))
def lawFnSecondWins_o26_4x : OV := (.alt 3 lawFnSecondWins_o26_3x (.one 7 lawFnSecondWins_o26x))
theorem lawFnSecondWins_o26_4x_c : ovB (opsOf 26 Tryd.f5.body) lawFnSecondWins_o26_4x 9 true #[true, true, true, false, true, false, true, false, false, true, true, true, false, true, true, false, true, true, false, false, false] = true := (ovB_alt (by kernel_rfl) (ovB_at (by kernel_rfl) lawFnSecondWins_o26_3x_c) (ovB_last (ovB_at (by kernel_rfl) lawFnSecondWins_o26x_c)))
def lawFnSecondWins_o26_5x : OV := (.one 8 (.one 12 (.one 15 (.one 18 (.take 19 (.take 20 .done))))))
theorem lawFnSecondWins_o26_5x_c : ovB (opsOf 26 Tryd.f5.body) lawFnSecondWins_o26_5x 6 true #[true, true, true, true, true, true, true, true, false, true, true, true, false, true, true, false, true, true, false, false, false] = true := (ovB_one (by kernel_rfl) (ovB_one (by kernel_rfl) (ovB_one (by kernel_rfl) (ovB_one (by kernel_rfl) (ovB_take (by kernel_rfl) (ovB_take (by kernel_rfl) (ovB_done (by kernel_rfl))))))))
def lawFnSecondWins_o26_6x : OV := (.one 10 (.one 12 (.one 15 (.one 18 (.take 19 (.take 20 .done))))))
theorem lawFnSecondWins_o26_6x_c : ovB (opsOf 26 Tryd.f5.body) lawFnSecondWins_o26_6x 6 true #[true, true, true, true, true, true, true, true, true, true, false, true, false, true, true, false, true, true, false, false, false] = true := (ovB_one (by kernel_rfl) (ovB_one (by kernel_rfl) (ovB_one (by kernel_rfl) (ovB_one (by kernel_rfl) (ovB_take (by kernel_rfl) (ovB_take (by kernel_rfl) (ovB_done (by kernel_rfl))))))))
def lawFnSecondWins_o26_7x : OV := (.alt 8 lawFnSecondWins_o26_6x (.one 10 lawFnSecondWins_o26_5x))
theorem lawFnSecondWins_o26_7x_c : ovB (opsOf 26 Tryd.f5.body) lawFnSecondWins_o26_7x 7 true #[true, true, true, true, true, true, true, true, false, true, false, true, false, true, true, false, true, true, false, false, false] = true := (ovB_alt (by kernel_rfl) (ovB_at (by kernel_rfl) lawFnSecondWins_o26_6x_c) (ovB_last (ovB_at (by kernel_rfl) lawFnSecondWins_o26_5x_c)))
def lawFnSecondWins_o26_8x : OV := (.alt 5 lawFnSecondWins_o26_7x (.one 10 lawFnSecondWins_o26_1x))
theorem lawFnSecondWins_o26_8x_c : ovB (opsOf 26 Tryd.f5.body) lawFnSecondWins_o26_8x 8 true #[true, true, true, true, true, false, true, true, false, true, false, true, false, true, true, false, true, true, false, false, false] = true := (ovB_alt (by kernel_rfl) (ovB_at (by kernel_rfl) lawFnSecondWins_o26_7x_c) (ovB_last (ovB_at (by kernel_rfl) lawFnSecondWins_o26_1x_c)))
def lawFnSecondWins_o26_9x : OV := (.alt 3 lawFnSecondWins_o26_8x (.one 10 lawFnSecondWins_o26x))
theorem lawFnSecondWins_o26_9x_c : ovB (opsOf 26 Tryd.f5.body) lawFnSecondWins_o26_9x 9 true #[true, true, true, false, true, false, true, true, false, true, false, true, false, true, true, false, true, true, false, false, false] = true := (ovB_alt (by kernel_rfl) (ovB_at (by kernel_rfl) lawFnSecondWins_o26_8x_c) (ovB_last (ovB_at (by kernel_rfl) lawFnSecondWins_o26x_c)))
def lawFnSecondWins_o26_10x : OV := (.alt 7 lawFnSecondWins_o26_7x (.one 10 lawFnSecondWins_o26_2x))
theorem lawFnSecondWins_o26_10x_c : ovB (opsOf 26 Tryd.f5.body) lawFnSecondWins_o26_10x 8 true #[true, true, true, true, true, true, true, false, false, true, false, true, false, true, true, false, true, true, false, false, false] = true := (ovB_alt (by kernel_rfl) (ovB_at (by kernel_rfl) lawFnSecondWins_o26_7x_c) (ovB_last (ovB_at (by kernel_rfl) lawFnSecondWins_o26_2x_c)))
def lawFnSecondWins_o26_11x : OV := (.alt 5 lawFnSecondWins_o26_10x (.alt 7 lawFnSecondWins_o26_8x (.one 10 lawFnSecondWins_o26_3x)))
theorem lawFnSecondWins_o26_11x_c : ovB (opsOf 26 Tryd.f5.body) lawFnSecondWins_o26_11x 9 true #[true, true, true, true, true, false, true, false, false, true, false, true, false, true, true, false, true, true, false, false, false] = true := (ovB_alt (by kernel_rfl) (ovB_at (by kernel_rfl) lawFnSecondWins_o26_10x_c) (ovB_next (ovB_at (by kernel_rfl) lawFnSecondWins_o26_8x_c) (ovB_last (ovB_at (by kernel_rfl) lawFnSecondWins_o26_3x_c))))
def lawFnSecondWins_o26_12x : OV := (.alt 3 lawFnSecondWins_o26_11x (.alt 7 lawFnSecondWins_o26_9x (.one 10 lawFnSecondWins_o26_4x)))
theorem lawFnSecondWins_o26_12x_c : ovB (opsOf 26 Tryd.f5.body) lawFnSecondWins_o26_12x 10 true #[true, true, true, false, true, false, true, false, false, true, false, true, false, true, true, false, true, true, false, false, false] = true := (ovB_alt (by kernel_rfl) (ovB_at (by kernel_rfl) lawFnSecondWins_o26_11x_c) (ovB_next (ovB_at (by kernel_rfl) lawFnSecondWins_o26_9x_c) (ovB_last (ovB_at (by kernel_rfl) lawFnSecondWins_o26_4x_c))))
def lawFnSecondWins_o26_13x : OV := (.one 12 (.one 15 (.one 18 (.take 19 (.take 20 .done)))))
theorem lawFnSecondWins_o26_13x_c : ovB (opsOf 26 Tryd.f5.body) lawFnSecondWins_o26_13x 5 true #[true, true, true, true, true, true, true, true, true, true, true, true, false, true, true, false, true, true, false, false, false] = true := (ovB_one (by kernel_rfl) (ovB_one (by kernel_rfl) (ovB_one (by kernel_rfl) (ovB_take (by kernel_rfl) (ovB_take (by kernel_rfl) (ovB_done (by kernel_rfl)))))))
def lawFnSecondWins_o26_14x : OV := (.one 14 (.one 15 (.one 18 (.take 19 (.take 20 .done)))))
theorem lawFnSecondWins_o26_14x_c : ovB (opsOf 26 Tryd.f5.body) lawFnSecondWins_o26_14x 5 true #[true, true, true, true, true, true, true, true, true, true, true, true, true, true, false, false, true, true, false, false, false] = true := (ovB_one (by kernel_rfl) (ovB_one (by kernel_rfl) (ovB_one (by kernel_rfl) (ovB_take (by kernel_rfl) (ovB_take (by kernel_rfl) (ovB_done (by kernel_rfl)))))))
def lawFnSecondWins_o26_15x : OV := (.alt 12 lawFnSecondWins_o26_14x (.one 14 lawFnSecondWins_o26_13x))
theorem lawFnSecondWins_o26_15x_c : ovB (opsOf 26 Tryd.f5.body) lawFnSecondWins_o26_15x 6 true #[true, true, true, true, true, true, true, true, true, true, true, true, false, true, false, false, true, true, false, false, false] = true := (ovB_alt (by kernel_rfl) (ovB_at (by kernel_rfl) lawFnSecondWins_o26_14x_c) (ovB_last (ovB_at (by kernel_rfl) lawFnSecondWins_o26_13x_c)))
def lawFnSecondWins_o26_16x : OV := (.alt 8 lawFnSecondWins_o26_15x (.one 14 lawFnSecondWins_o26_5x))
theorem lawFnSecondWins_o26_16x_c : ovB (opsOf 26 Tryd.f5.body) lawFnSecondWins_o26_16x 7 true #[true, true, true, true, true, true, true, true, false, true, true, true, false, true, false, false, true, true, false, false, false] = true := (ovB_alt (by kernel_rfl) (ovB_at (by kernel_rfl) lawFnSecondWins_o26_15x_c) (ovB_last (ovB_at (by kernel_rfl) lawFnSecondWins_o26_5x_c)))
def lawFnSecondWins_o26_17x : OV := (.alt 5 lawFnSecondWins_o26_16x (.one 14 lawFnSecondWins_o26_1x))
theorem lawFnSecondWins_o26_17x_c : ovB (opsOf 26 Tryd.f5.body) lawFnSecondWins_o26_17x 8 true #[true, true, true, true, true, false, true, true, false, true, true, true, false, true, false, false, true, true, false, false, false] = true := (ovB_alt (by kernel_rfl) (ovB_at (by kernel_rfl) lawFnSecondWins_o26_16x_c) (ovB_last (ovB_at (by kernel_rfl) lawFnSecondWins_o26_1x_c)))
def lawFnSecondWins_o26_18x : OV := (.alt 3 lawFnSecondWins_o26_17x (.one 14 lawFnSecondWins_o26x))
theorem lawFnSecondWins_o26_18x_c : ovB (opsOf 26 Tryd.f5.body) lawFnSecondWins_o26_18x 9 true #[true, true, true, false, true, false, true, true, false, true, true, true, false, true, false, false, true, true, false, false, false] = true := (ovB_alt (by kernel_rfl) (ovB_at (by kernel_rfl) lawFnSecondWins_o26_17x_c) (ovB_last (ovB_at (by kernel_rfl) lawFnSecondWins_o26x_c)))
def lawFnSecondWins_o26_19x : OV := (.alt 7 lawFnSecondWins_o26_16x (.one 14 lawFnSecondWins_o26_2x))
theorem lawFnSecondWins_o26_19x_c : ovB (opsOf 26 Tryd.f5.body) lawFnSecondWins_o26_19x 8 true #[true, true, true, true, true, true, true, false, false, true, true, true, false, true, false, false, true, true, false, false, false] = true := (ovB_alt (by kernel_rfl) (ovB_at (by kernel_rfl) lawFnSecondWins_o26_16x_c) (ovB_last (ovB_at (by kernel_rfl) lawFnSecondWins_o26_2x_c)))
def lawFnSecondWins_o26_20x : OV := (.alt 5 lawFnSecondWins_o26_19x (.alt 7 lawFnSecondWins_o26_17x (.one 14 lawFnSecondWins_o26_3x)))
theorem lawFnSecondWins_o26_20x_c : ovB (opsOf 26 Tryd.f5.body) lawFnSecondWins_o26_20x 9 true #[true, true, true, true, true, false, true, false, false, true, true, true, false, true, false, false, true, true, false, false, false] = true := (ovB_alt (by kernel_rfl) (ovB_at (by kernel_rfl) lawFnSecondWins_o26_19x_c) (ovB_next (ovB_at (by kernel_rfl) lawFnSecondWins_o26_17x_c) (ovB_last (ovB_at (by kernel_rfl) lawFnSecondWins_o26_3x_c))))
def lawFnSecondWins_o26_21x : OV := (.alt 3 lawFnSecondWins_o26_20x (.alt 7 lawFnSecondWins_o26_18x (.one 14 lawFnSecondWins_o26_4x)))
theorem lawFnSecondWins_o26_21x_c : ovB (opsOf 26 Tryd.f5.body) lawFnSecondWins_o26_21x 10 true #[true, true, true, false, true, false, true, false, false, true, true, true, false, true, false, false, true, true, false, false, false] = true := (ovB_alt (by kernel_rfl) (ovB_at (by kernel_rfl) lawFnSecondWins_o26_20x_c) (ovB_next (ovB_at (by kernel_rfl) lawFnSecondWins_o26_18x_c) (ovB_last (ovB_at (by kernel_rfl) lawFnSecondWins_o26_4x_c))))
def lawFnSecondWins_o26_22x : OV := (.alt 10 lawFnSecondWins_o26_15x (.one 14 lawFnSecondWins_o26_6x))
theorem lawFnSecondWins_o26_22x_c : ovB (opsOf 26 Tryd.f5.body) lawFnSecondWins_o26_22x 7 true #[true, true, true, true, true, true, true, true, true, true, false, true, false, true, false, false, true, true, false, false, false] = true := (ovB_alt (by kernel_rfl) (ovB_at (by kernel_rfl) lawFnSecondWins_o26_15x_c) (ovB_last (ovB_at (by kernel_rfl) lawFnSecondWins_o26_6x_c)))
def lawFnSecondWins_o26_23x : OV := (.alt 8 lawFnSecondWins_o26_22x (.alt 10 lawFnSecondWins_o26_16x (.one 14 lawFnSecondWins_o26_7x)))
theorem lawFnSecondWins_o26_23x_c : ovB (opsOf 26 Tryd.f5.body) lawFnSecondWins_o26_23x 8 true #[true, true, true, true, true, true, true, true, false, true, false, true, false, true, false, false, true, true, false, false, false] = true := (ovB_alt (by kernel_rfl) (ovB_at (by kernel_rfl) lawFnSecondWins_o26_22x_c) (ovB_next (ovB_at (by kernel_rfl) lawFnSecondWins_o26_16x_c) (ovB_last (ovB_at (by kernel_rfl) lawFnSecondWins_o26_7x_c))))
def lawFnSecondWins_o26_24x : OV := (.alt 5 lawFnSecondWins_o26_23x (.alt 10 lawFnSecondWins_o26_17x (.one 14 lawFnSecondWins_o26_8x)))
theorem lawFnSecondWins_o26_24x_c : ovB (opsOf 26 Tryd.f5.body) lawFnSecondWins_o26_24x 9 true #[true, true, true, true, true, false, true, true, false, true, false, true, false, true, false, false, true, true, false, false, false] = true := (ovB_alt (by kernel_rfl) (ovB_at (by kernel_rfl) lawFnSecondWins_o26_23x_c) (ovB_next (ovB_at (by kernel_rfl) lawFnSecondWins_o26_17x_c) (ovB_last (ovB_at (by kernel_rfl) lawFnSecondWins_o26_8x_c))))
def lawFnSecondWins_o26_25x : OV := (.alt 3 lawFnSecondWins_o26_24x (.alt 10 lawFnSecondWins_o26_18x (.one 14 lawFnSecondWins_o26_9x)))
theorem lawFnSecondWins_o26_25x_c : ovB (opsOf 26 Tryd.f5.body) lawFnSecondWins_o26_25x 10 true #[true, true, true, false, true, false, true, true, false, true, false, true, false, true, false, false, true, true, false, false, false] = true := (ovB_alt (by kernel_rfl) (ovB_at (by kernel_rfl) lawFnSecondWins_o26_24x_c) (ovB_next (ovB_at (by kernel_rfl) lawFnSecondWins_o26_18x_c) (ovB_last (ovB_at (by kernel_rfl) lawFnSecondWins_o26_9x_c))))
def lawFnSecondWins_o26_26x : OV := (.alt 7 lawFnSecondWins_o26_23x (.alt 10 lawFnSecondWins_o26_19x (.one 14 lawFnSecondWins_o26_10x)))
theorem lawFnSecondWins_o26_26x_c : ovB (opsOf 26 Tryd.f5.body) lawFnSecondWins_o26_26x 9 true #[true, true, true, true, true, true, true, false, false, true, false, true, false, true, false, false, true, true, false, false, false] = true := (ovB_alt (by kernel_rfl) (ovB_at (by kernel_rfl) lawFnSecondWins_o26_23x_c) (ovB_next (ovB_at (by kernel_rfl) lawFnSecondWins_o26_19x_c) (ovB_last (ovB_at (by kernel_rfl) lawFnSecondWins_o26_10x_c))))
def lawFnSecondWins_o26_27x : OV := (.alt 5 lawFnSecondWins_o26_26x (.alt 7 lawFnSecondWins_o26_24x (.alt 10 lawFnSecondWins_o26_20x (.one 14 lawFnSecondWins_o26_11x))))
theorem lawFnSecondWins_o26_27x_c : ovB (opsOf 26 Tryd.f5.body) lawFnSecondWins_o26_27x 10 true #[true, true, true, true, true, false, true, false, false, true, false, true, false, true, false, false, true, true, false, false, false] = true := (ovB_alt (by kernel_rfl) (ovB_at (by kernel_rfl) lawFnSecondWins_o26_26x_c) (ovB_next (ovB_at (by kernel_rfl) lawFnSecondWins_o26_24x_c) (ovB_next (ovB_at (by kernel_rfl) lawFnSecondWins_o26_20x_c) (ovB_last (ovB_at (by kernel_rfl) lawFnSecondWins_o26_11x_c)))))
def lawFnSecondWins_o26_28x : OV := (.take 0 (.take 1 (.take 2 (.take 4 (.take 6 (.take 9 (.take 11 (.take 13 (.take 16 (.take 17 (.alt 3 lawFnSecondWins_o26_27x (.alt 7 lawFnSecondWins_o26_25x (.alt 10 lawFnSecondWins_o26_21x (.one 14 lawFnSecondWins_o26_12x))))))))))))))
theorem lawFnSecondWins_o26_28x_c : ovB (opsOf 26 Tryd.f5.body) lawFnSecondWins_o26_28x 21 true #[false, false, false, false, false, false, false, false, false, false, false, false, false, false, false, false, false, false, false, false, false] = true := (ovB_take (by kernel_rfl) (ovB_take (by kernel_rfl) (ovB_take (by kernel_rfl) (ovB_take (by kernel_rfl) (ovB_take (by kernel_rfl) (ovB_take (by kernel_rfl) (ovB_take (by kernel_rfl) (ovB_take (by kernel_rfl) (ovB_take (by kernel_rfl) (ovB_take (by kernel_rfl) (ovB_alt (by kernel_rfl) (ovB_at (by kernel_rfl) lawFnSecondWins_o26_27x_c) (ovB_next (ovB_at (by kernel_rfl) lawFnSecondWins_o26_25x_c) (ovB_next (ovB_at (by kernel_rfl) lawFnSecondWins_o26_21x_c) (ovB_last (ovB_at (by kernel_rfl) lawFnSecondWins_o26_12x_c)))))))))))))))
def lawFnSecondWins_o26_29x : OV := (.take 19 (.take 20 .done))
theorem lawFnSecondWins_o26_29x_c : ovB (opsOf 26 Tryd.f5.body) lawFnSecondWins_o26_29x 2 true #[true, true, true, true, true, true, true, true, true, true, true, true, true, true, true, true, true, true, true, false, false] = true := (ovB_take (by kernel_rfl) (ovB_take (by kernel_rfl) (ovB_done (by kernel_rfl))))
set_option maxHeartbeats 400000 in
/-- laws.FnSecondWins -/
theorem lawFnSecondWins (bv : Value) (L : List Int) (w : World) (hbv : Row w bv (u8s L)) (hL8 : Bytes8 L) (hLm : L.length ≤ 9223372036854775807) :
    Calls Tryd.prog 5 [bv].toArray w fun en w' => en = .returned (.bool true) ∧ Below w.heap.size w w' := by
 refine fnStart (n := 158) (e := [(0, bv)]) Tryd.func5 rfl rfl rfl rfl Ends.both ?_
 refine Wk.seq ?_
 refine Wk.regionQ ?_
 refine Lq.run 1 rfl ?_
 refine Lq.nil ?_
 refine Kt.sel [0] [_] rfl ?_
 refine Wk.seq ?_
 refine Wk.seq ?_
 refine Wk.regionQ ?_
 refine Lq.run 1 rfl ?_
 refine Lq.op rfl rfl rfl (OpQ.lenRow rfl Tryd.runUnderlying22 rfl (u8s_length _) (fun w1 hw1 => Row.own hbv hw1)) ?_
 refine Lq.run 1 rfl ?_
 refine Lq.nil ?_
 refine Kt.sel [0, 18] [_, _] rfl ?_
 refine Wk.cond (b := decide ((1048576 : Int) < ((L.length : Int)))) rfl (fun h18 => ?_) (fun h18 => ?_)
 ·
  replace h18 := of_decide_eq_true h18
  refine Wk.seq ?_
  refine Wk.regionQ ?_
  refine Lq.run 1 rfl ?_
  refine Lq.nil ?_
  refine Kt.sel [2] [_] rfl ?_
  refine Wk.ret (Kt.end1 rfl rfl fun w' hw => ?_)
  -- ret 0: bo_ true
  exact ⟨ret_b (by first | rfl | (simp_all; done) | (simp_all; omega)), hw.below⟩
 ·
  replace h18 := of_decide_eq_false h18
  refine Wk.skip ?_
  refine Kt.sel [0] [_] rfl ?_
  refine Wk.seq ?_
  refine Wk.region ?_
  refine Ll.run 1 rfl ?_
  refine Ll.callBack (ok := fun ((a, b, v, xs, u, ys, new, r) : St × St × Value × List Int × Value × List Int × List (Nat × Obj) × Int) => ((a.Tame ∧ b.Tame) ∧ (xs.length ≤ 40 ∧ ys.length ≤ 40) ∧ ∀ w1, Own w.heap.size w new w1 → Ints w1 v xs ∧ Ints w1 u ys) ∧ -1 ≤ r ∧ r ≤ 4) (v := fun ((a, b, v, xs, u, ys, new, r) : St × St × Value × List Int × Value × List Int × List (Nat × Obj) × Int) => .tuple #[vS a, v, vS b, u, .int .i64 r]) (new := fun ((a, b, v, xs, u, ys, new, r) : St × St × Value × List Int × Value × List Int × List (Nat × Obj) × Int) => new) (hs := []) (xs := [.tmp 20]) (vs := [bv]) ([] : List (Nat × Obj)) rfl rfl rfl rfl Tryd.call25 rfl (fun w1 hw1 => (drawWins_ok w.heap.size w (([] : List (Nat × Obj)) ++ ([])) bv L w1 (fun w2 hw2 => Row.own hbv hw2) hL8 (by omega) hw1).mono fun en w' ⟨a, b, v, xs, u, ys, new, r, h1, h2, h3⟩ => ⟨(a, b, v, xs, u, ys, new, r), h1, h2, h3⟩) fun ⟨a21, b21, v21, xs21, u21, ys21, new21, r21⟩ hK => ?_
  dsimp only at hK
  obtain ⟨⟨⟨hta21, htb21⟩, ⟨hlxs21, hlys21⟩, hrw⟩, ⟨hlor21, hhir21⟩⟩ := hK
  have hIv21 : ∀ w1, Own w.heap.size w new21 w1 → Ints w1 v21 xs21 := fun w1 h => (hrw w1 h).1
  have hIu21 : ∀ w1, Own w.heap.size w new21 w1 → Ints w1 u21 ys21 := fun w1 h => (hrw w1 h).2
  have hsa21 := hta21.small
  have loa21 := hta21.lo
  have hia21 := hta21.hi
  have hsb21 := htb21.small
  have lob21 := htb21.lo
  have hib21 := htb21.hi
  show Ll _ _ (Own _ _ ((new21 ++ ([])))) _ _ ((21, .tuple #[vS a21, v21, vS b21, u21, i6_ r21]) :: _) _ _ _
  refine Ll.run 6 rfl ?_
  refine Ll.alloc rfl rfl rfl rfl Tryd.zeroValue24 fun p3 hp3 => ?_
  show Ll _ _ (Own _ _ (_ :: (new21 ++ ([])))) _ _ ((3, pt_ p3) :: _) _ _ _
  refine Ll.alloc rfl rfl rfl rfl Tryd.zeroValue24 fun p5 hp5 => ?_
  show Ll _ _ (Own _ _ (_ :: _ :: (new21 ++ ([])))) _ _ ((5, pt_ p5) :: _) _ _ _
  refine Ll.storeBox (cs' := #[i6_ a21.n, str a21.set, str a21.rel]) (hs' := (_ :: bk_ p3 #[i6_ a21.n, str a21.set, str a21.rel] 24 :: (new21 ++ ([])))) 1 rfl rfl rfl rfl rfl (by kernel_rfl : _ = some Tryd.t24) rfl rfl rfl rfl rfl ?_
  refine Ll.run 1 rfl ?_
  refine Ll.storeBox (cs' := #[i6_ b21.n, str b21.set, str b21.rel]) (hs' := (bk_ p5 #[i6_ b21.n, str b21.set, str b21.rel] 24 :: _ :: (new21 ++ ([])))) 0 rfl rfl rfl rfl rfl (by kernel_rfl : _ = some Tryd.t24) rfl rfl rfl rfl rfl ?_
  refine Ll.run 2 rfl ?_
  refine Ll.nil ?_
  refine Kt.sel [3, 4, 5, 6, 7] [_, _, _, _, _] rfl ?_
  refine Wk.seq ?_
  refine Wk.regionQ ?_
  refine Lq.op rfl rfl rfl (OpQ.loadBox (cs := #[i6_ a21.n, str a21.set, str a21.rel]) 1 rfl Tryd.isAgg24 rfl rfl Tryd.sizeOf24) ?_
  refine Lq.run 1 rfl ?_
  refine Lq.op rfl rfl rfl (OpQ.loadBox (cs := #[i6_ b21.n, str b21.set, str b21.rel]) 0 rfl Tryd.isAgg24 rfl rfl Tryd.sizeOf24) ?_
  refine Lq.run 2 rfl ?_
  refine Lq.op (v := bo_ (secB a21 xs21 b21 ys21 r21)) rfl rfl rfl (OpQ.call rfl Tryd.call26 rfl Own.stable (fun w1 hw1 => iWins_ok a21 b21 xs21 ys21 v21 u21 w1 hsa21 hsb21 (hIv21 _ (Own.dropR (Own.drop (f := [_, _]) hw1))) (hIu21 _ (Own.dropR (Own.drop (f := [_, _]) hw1))) (by first | (simp; done) | (simp; omega) | omega) (by first | (simp; done) | (simp; omega) | omega) r21)) ?_
  refine Lq.run 1 rfl ?_
  refine Lq.nil ?_
  refine Kt.sel [3, 4, 5, 6, 7, 8] [_, _, _, _, _, _] rfl ?_
  refine Wk.seq ?_
  refine Wk.seq ?_
  refine Wk.regionQ ?_
  refine Lq.run 1 rfl ?_
  refine Lq.op rfl rfl rfl (OpQ.loadBox (cs := #[i6_ a21.n, str a21.set, str a21.rel]) 1 rfl Tryd.isAgg24 rfl rfl Tryd.sizeOf24) ?_
  refine Lq.run 1 rfl ?_
  refine Lq.op rfl rfl rfl (OpQ.loadBox (cs := #[i6_ b21.n, str b21.set, str b21.rel]) 0 rfl Tryd.isAgg24 rfl rfl Tryd.sizeOf24) ?_
  refine Lq.run 2 rfl ?_
  refine Lq.op (v := bo_ (secB a21 xs21 b21 ys21 r21)) rfl rfl rfl (OpQ.call rfl Tryd.call27 rfl Own.stable (fun w1 hw1 => sWins_ok a21 b21 xs21 ys21 v21 u21 w1 hsa21 hsb21 (hIv21 _ (Own.dropR (Own.drop (f := [_, _]) hw1))) (hIu21 _ (Own.dropR (Own.drop (f := [_, _]) hw1))) (by first | (simp; done) | (simp; omega) | omega) (by first | (simp; done) | (simp; omega) | omega) loa21 hia21 lob21 hib21 r21)) ?_
  refine Lq.op rfl rfl rfl (OpQ.bne rfl Tryd.runUnderlying4 rfl rfl) ?_
  refine Lq.run 1 rfl ?_
  refine Lq.bool fun b41 hg41 => ?_
  cases b41
  ·
   refine Lq.run 4 rfl ?_
   refine Lq.bool fun b45 hg45 => ?_
   cases b45
   ·
    replace hg45 := of_decide_eq_false hg45
    refine Lq.run 4 rfl ?_
    refine Lq.bool fun b49 hg49 => ?_
    cases b49
    ·
     replace hg49 := of_decide_eq_false hg49
     refine Lq.op rfl rfl rfl (OpQ.loadBox (cs := #[i6_ a21.n, str a21.set, str a21.rel]) 1 rfl Tryd.isAgg24 rfl rfl Tryd.sizeOf24) ?_
     refine Lq.run 1 rfl ?_
     refine Lq.op rfl rfl rfl (OpQ.loadBox (cs := #[i6_ b21.n, str b21.set, str b21.rel]) 0 rfl Tryd.isAgg24 rfl rfl Tryd.sizeOf24) ?_
     refine Lq.run 1 rfl ?_
     refine Lq.op (v := i6_ (longI a21 xs21 b21 ys21)) rfl rfl rfl (OpQ.call rfl Tryd.call28 rfl Own.stable (fun w1 hw1 => iLong_ok a21 b21 xs21 ys21 v21 u21 w1 hsa21 hsb21 (hIv21 _ (Own.dropR (Own.drop (f := [_, _]) hw1))) (hIu21 _ (Own.dropR (Own.drop (f := [_, _]) hw1))) (by first | (simp; done) | (simp; omega) | omega) (by first | (simp; done) | (simp; omega) | omega))) ?_
     refine Lq.run 2 rfl ?_
     refine Lq.nil ?_
     refine Kt.sel [3, 4, 5, 6, 7, 8, 56] [_, _, _, _, _, _, _] rfl ?_
     refine Wk.cond (b := decide ((longI a21 xs21 b21 ys21) < (0 : Int))) rfl (fun h56 => ?_) (fun h56 => ?_)
     ·
      replace h56 := of_decide_eq_true h56
      refine Wk.seq ?_
      refine Wk.regionQ ?_
      refine Lq.run 1 rfl ?_
      refine Lq.op rfl rfl rfl (OpQ.loadBox (cs := #[i6_ a21.n, str a21.set, str a21.rel]) 1 rfl Tryd.isAgg24 rfl rfl Tryd.sizeOf24) ?_
      refine Lq.run 1 rfl ?_
      refine Lq.op rfl rfl rfl (OpQ.loadBox (cs := #[i6_ b21.n, str b21.set, str b21.rel]) 0 rfl Tryd.isAgg24 rfl rfl Tryd.sizeOf24) ?_
      refine Lq.run 2 rfl ?_
      refine Lq.op (v := bo_ (secB a21 xs21 b21 ys21 r21)) rfl rfl rfl (OpQ.call rfl Tryd.call27 rfl Own.stable (fun w1 hw1 => sWins_ok a21 b21 xs21 ys21 v21 u21 w1 hsa21 hsb21 (hIv21 _ (Own.dropR (Own.drop (f := [_, _]) hw1))) (hIu21 _ (Own.dropR (Own.drop (f := [_, _]) hw1))) (by first | (simp; done) | (simp; omega) | omega) (by first | (simp; done) | (simp; omega) | omega) loa21 hia21 lob21 hib21 r21)) ?_
      refine Lq.op rfl rfl rfl (OpQ.beq rfl Tryd.runUnderlying4 rfl rfl) ?_
      refine Lq.run 1 rfl ?_
      refine Lq.nil ?_
      refine Kt.sel [2] [_] rfl ?_
      refine Wk.ret (Kt.end1 rfl rfl fun w' hw => ?_)
      -- ret 1: bo_ ((secB a21 xs21 b21 ys21 r21) == (secB a21 xs21 b21 ys21 r21))
      exact ⟨ret_b (by first | rfl | (simp_all; done) | (simp_all; omega)), hw.below⟩
     ·
      replace h56 := of_decide_eq_false h56
      have hLL := longI_listed h56
      obtain ⟨LA, LB, hlen⟩ := listsB_true hLL
      have ha := LA.fine
      have hb := LB.fine
      have hA := LA.els
      have hB := LB.els
      have hl4 := LA.len
      have hlo1 := ha.lo
      have hlo2 := hb.lo
      have hhi1 := ha.hi
      have hhi2 := hb.hi
      refine Wk.skip ?_
      refine Kt.sel [3, 4, 5, 6, 7, 8] [_, _, _, _, _, _] rfl ?_
      refine Wk.seq ?_
      refine Wk.seq ?_
      refine Wk.regionQ ?_
      refine Lq.run 3 rfl ?_
      refine Lq.bool fun b67 hg67 => ?_
      cases b67
      ·
       replace hg67 := of_decide_eq_false hg67
       refine Lq.run 1 rfl ?_
       refine Lq.op rfl rfl rfl (OpQ.lenRow rfl Tryd.runUnderlying25 rfl (ints_length _) (fun w1 hw1 => hIv21 _ (Own.dropR (Own.drop (f := [_, _]) hw1)))) ?_
       refine Lq.run 2 rfl ?_
       refine Lq.nil ?_
       refine Kt.sel [3, 4, 5, 6, 7, 8, 71] [_, _, _, _, _, _, _] rfl ?_
       refine Wk.cond (b := decide ((3 : Int) < ((xs21.length : Int)))) rfl (fun h71 => ?_) (fun h71 => ?_)
       ·
        replace h71 := of_decide_eq_true h71
        refine Wk.seq ?_
        refine Wk.regionQ ?_
        refine Lq.run 3 rfl ?_
        refine Lq.bool fun b74 hg74 => ?_
        cases b74
        ·
         replace hg74 := of_decide_eq_false hg74
         refine Lq.run 1 rfl ?_
         refine Lq.op rfl rfl rfl (OpQ.loadBox (cs := #[i6_ a21.n, str a21.set, str a21.rel]) 1 rfl Tryd.isAgg24 rfl rfl Tryd.sizeOf24) ?_
         refine Lq.run 1 rfl ?_
         refine Lq.op rfl rfl rfl (OpQ.loadBox (cs := #[i6_ b21.n, str b21.set, str b21.rel]) 0 rfl Tryd.isAgg24 rfl rfl Tryd.sizeOf24) ?_
         refine Lq.run 1 rfl ?_
         refine Lq.op (v := bo_ (wayB a21 xs21 b21 ys21)) rfl rfl rfl (OpQ.call rfl Tryd.call19 rfl Own.stable (fun w1 hw1 => iPart_ok a21 b21 xs21 ys21 v21 u21 w1 hsa21 hsb21 (hIv21 _ (Own.dropR (Own.drop (f := [_, _]) hw1))) (hIu21 _ (Own.dropR (Own.drop (f := [_, _]) hw1))) (by first | (simp; done) | (simp; omega) | omega) (by first | (simp; done) | (simp; omega) | omega))) ?_
         refine Lq.op rfl rfl rfl (OpQ.beq rfl Tryd.runUnderlying4 rfl rfl) ?_
         refine Lq.run 2 rfl ?_
         refine Lq.nil ?_
         refine Kt.sel [2] [_] rfl ?_
         refine Wk.ret (Kt.end1 rfl rfl fun w' hw => ?_)
         -- ret 2: bo_ ((secB a21 xs21 b21 ys21 r21) == (wayB a21 xs21 b21 ys21))
         exact ⟨ret_b (sec_zero_eq hLL (by omega)), hw.below⟩
        ·
         replace hg74 := of_decide_eq_true hg74
         refine Lq.pass rfl rfl rfl ?_
         refine Lq.pass rfl rfl rfl ?_
         refine Lq.pass rfl rfl rfl ?_
         refine Lq.pass rfl rfl rfl ?_
         refine Lq.pass rfl rfl rfl ?_
         refine Lq.pass rfl rfl rfl ?_
         refine Lq.pass rfl rfl rfl ?_
         refine Lq.run 2 rfl ?_
         refine Lq.nil ?_
         refine Kt.sel [2] [_] rfl ?_
         refine Wk.ret (Kt.end1 rfl rfl fun w' hw => ?_)
         -- ret 3: bo_ true
         exact ⟨ret_b (by first | rfl | (simp_all; done) | (simp_all; omega)), hw.below⟩
       ·
        replace h71 := of_decide_eq_false h71
        refine Wk.skip ?_
        refine Kt.sel [3, 4, 5, 6, 7, 8] [_, _, _, _, _, _] rfl ?_
        refine Wk.seq ?_
        refine Wk.regionQ ?_
        refine Lq.run 1 rfl ?_
        refine Lq.nil ?_
        refine Kt.sel [3, 4, 5, 6, 7, 8, 9] [_, _, _, _, _, _, _] rfl ?_
        refine Wk.seq ?_
        refine Wk.seq ?_
        refine Wk.regionQ ?_
        refine Lq.run 1 rfl ?_
        refine Lq.nil ?_
        refine Kt.sel [3, 4, 5, 6, 7, 8, 9, 10] [_, _, _, _, _, _, _, _] rfl ?_
        refine Wk.block ?_
        refine Wk.loop (σ := Nat) (fun i => (i : Int) ≤ a21.n) (fun i => [(3, pt_ p3), (4, v21), (5, pt_ p5), (6, u21), (7, i6_ r21), (8, bo_ (secB a21 xs21 b21 ys21 r21)), (9, bo_ (allW (secF a21 xs21 b21 ys21 r21) i b21.n.toNat)), (10, i6_ ((i : Int)))]) (fun i => Own w.heap.size w (bk_ p5 #[i6_ b21.n, str b21.set, str b21.rel] 24 :: bk_ p3 #[i6_ a21.n, str a21.set, str a21.rel] 24 :: (new21 ++ ([])))) (fun i => (a21.n - i).toNat) (0) (by omega) (Sub.cons rfl (Sub.cons rfl (Sub.cons rfl (Sub.cons rfl (Sub.cons rfl (Sub.cons rfl (Sub.cons (by rfl) (Sub.sel [10] rfl)))))))) (fun _ h => h) ?_
        rintro i hi
        refine Wk.seq ?_
        refine Wk.seq ?_
        refine Wk.regionQ ?_
        refine Lq.run 1 rfl ?_
        refine Lq.op rfl rfl rfl (OpQ.fieldAddr rfl Tryd.runUnderlying24 rfl Tryd.sizeOf3 rfl rfl) ?_
        refine Lq.op rfl rfl rfl (OpQ.loadOwn 1 rfl Tryd.isAgg3 rfl rfl rfl) ?_
        refine Lq.run 1 rfl ?_
        refine Lq.nil ?_
        refine Kt.sel [3, 4, 5, 6, 7, 8, 9, 10, 86] [_, _, _, _, _, _, _, _, _] rfl ?_
        refine Wk.cond (b := decide (((i : Int)) < a21.n)) rfl (fun h86 => ?_) (fun h86 => ?_)
        ·
         replace h86 := of_decide_eq_true h86
         refine Wk.skip ?_
         refine Kt.sel [3, 4, 5, 6, 7, 8, 9, 10] [_, _, _, _, _, _, _, _] rfl ?_
         refine Wk.seq ?_
         refine Wk.block ?_
         refine Wk.seq ?_
         refine Wk.regionQ ?_
         refine Lq.run 1 rfl ?_
         refine Lq.nil ?_
         refine Kt.sel [3, 4, 5, 6, 7, 8, 9, 10, 11] [_, _, _, _, _, _, _, _, _] rfl ?_
         refine Wk.seq ?_
         refine Wk.seq ?_
         refine Wk.regionQ ?_
         refine Lq.run 1 rfl ?_
         refine Lq.nil ?_
         refine Kt.sel [3, 4, 5, 6, 7, 8, 9, 10, 11, 12] [_, _, _, _, _, _, _, _, _, _] rfl ?_
         refine Wk.block ?_
         refine Wk.loop (σ := Nat) (fun j => (j : Int) ≤ b21.n) (fun j => [(3, pt_ p3), (4, v21), (5, pt_ p5), (6, u21), (7, i6_ r21), (8, bo_ (secB a21 xs21 b21 ys21 r21)), (9, bo_ (allW (secF a21 xs21 b21 ys21 r21) i b21.n.toNat)), (10, i6_ ((i : Int))), (11, bo_ (someW (secF a21 xs21 b21 ys21 r21) i j)), (12, i6_ ((j : Int)))]) (fun j => Own w.heap.size w (bk_ p5 #[i6_ b21.n, str b21.set, str b21.rel] 24 :: bk_ p3 #[i6_ a21.n, str a21.set, str a21.rel] 24 :: (new21 ++ ([])))) (fun j => (b21.n - j).toNat) (0) (by omega) (Sub.cons rfl (Sub.cons rfl (Sub.cons rfl (Sub.cons rfl (Sub.cons rfl (Sub.cons rfl (Sub.cons rfl (Sub.cons rfl (Sub.cons (by rfl) (Sub.sel [12] rfl)))))))))) (fun _ h => h) ?_
         rintro j hj
         refine Wk.seq ?_
         refine Wk.seq ?_
         refine Wk.regionQ ?_
         refine Lq.run 1 rfl ?_
         refine Lq.op rfl rfl rfl (OpQ.fieldAddr rfl Tryd.runUnderlying24 rfl Tryd.sizeOf3 rfl rfl) ?_
         refine Lq.op rfl rfl rfl (OpQ.loadOwn 0 rfl Tryd.isAgg3 rfl rfl rfl) ?_
         refine Lq.run 1 rfl ?_
         refine Lq.nil ?_
         refine Kt.sel [3, 4, 5, 6, 7, 8, 9, 10, 11, 12, 92] [_, _, _, _, _, _, _, _, _, _, _] rfl ?_
         refine Wk.cond (b := decide (((j : Int)) < b21.n)) rfl (fun h92 => ?_) (fun h92 => ?_)
         ·
          replace h92 := of_decide_eq_true h92
          refine Wk.skip ?_
          refine Kt.sel [3, 4, 5, 6, 7, 8, 9, 10, 11, 12] [_, _, _, _, _, _, _, _, _, _] rfl ?_
          refine Wk.seq ?_
          refine Wk.block ?_
          refine Wk.regionV (S := Own w.heap.size w (bk_ p5 #[i6_ b21.n, str b21.set, str b21.rel] 24 :: bk_ p3 #[i6_ a21.n, str a21.set, str a21.rel] 24 :: (new21 ++ ([])))) lawFnSecondWins_o17_28x Base.mixed (fun _ h => h.drawn) (ovOk_at (by kernel_rfl) (by kernel_rfl) (by kernel_rfl) (by kernel_rfl) lawFnSecondWins_o17_28x_c) ?_
          refine Lv.run 2 rfl (fun _ h => h) ?_
          refine Lv.bool fun b96 hg96 => ?_
          cases b96
          ·
           skip
           refine Lv.share (σ := Nat × Nat × Nat × Array Value × Nat) lawFnSecondWins_o17_15x (fun ⟨p102, p103, cap103, cur103, p105⟩ => (cur103.size = cap103 * 1 ∧ (xs21 ++ ([(i : Int)])).length ≤ cap103 ∧ cur103.toList.take (xs21 ++ ([(i : Int)])).length = ints (xs21 ++ ([(i : Int)])))) (fun ⟨p102, p103, cap103, cur103, p105⟩ => [(3, pt_ p3), (4, v21), (5, pt_ p5), (6, u21), (7, i6_ r21), (8, bo_ (secB a21 xs21 b21 ys21 r21)), (9, bo_ (allW (secF a21 xs21 b21 ys21 r21) i b21.n.toNat)), (10, i6_ ((i : Int))), (11, bo_ (someW (secF a21 xs21 b21 ys21 r21) i j)), (12, i6_ ((j : Int))), (96, bo_ false), (97, vS a21), (103, sl_ p103 (((xs21 ++ ([(i : Int)])).length)) cap103), (104, vS b21), (105, sl_ p105 0 0), (106, u21), (108, i6_ ((j : Int))), (112, i6_ (r21 - (1 : Int)))]) (fun ⟨p102, p103, cap103, cur103, p105⟩ => Own w.heap.size w (bk_ p102 #[i6_ ((i : Int))] 3 :: bk_ p103 cur103 3 :: bk_ p105 #[] 3 :: bk_ p5 #[i6_ b21.n, str b21.set, str b21.rel] 24 :: bk_ p3 #[i6_ a21.n, str a21.set, str a21.rel] 24 :: (new21 ++ ([])))) ?_ fun H17_ => ?_
           ·
            rintro ⟨p102, p103, cap103, cur103, p105⟩ ⟨hcp103, hlp103, htp103⟩
            dsimp only
            refine Lv.alt rfl ?_ (Lv.loud rfl ?_)
            ·
             refine Ll.appendInts (xs := []) (ys := ys21) Base.elem25 2 rfl rfl rfl rfl rfl rfl rfl rfl (by decide) rfl (fun w1 hw1 => (hIu21 _ (Own.dropR (Own.drop (f := [_, _, _, _, _]) hw1)))) ((ys21).length) (by first | (simp; done) | (simp; omega)) (by first | (simp; done) | (simp; omega) | omega) fun p107 cap107 cur107 hp107 hcp107 hlp107 htp107 => ?_
             show Ll _ _ (Own _ _ (_ :: _ :: _ :: _ :: _ :: (new21 ++ ([])))) _ _ ((107, sl_ p107 (((ys21).length)) cap107) :: _) _ _ _
             refine Ll.nil (Lv.joint (fun _ h => h.tail.tail.tail) ?_)
             refine Lv.loud rfl ?_
             refine Ll.slice (xs := [.tmp 108]) (vs := [i6_ ((j : Int))]) Base.elem25 rfl rfl rfl rfl rfl rfl (by decide) rfl fun p109 hp109 => ?_
             refine Ll.nil (Lv.joint (fun _ h => h.tail.tail.tail.tail) ?_)
             refine Lv.loud rfl ?_
             refine Ll.appendInts (xs := ys21) (ys := [(j : Int)]) Base.elem25 3 rfl rfl rfl rfl rfl rfl rfl hcp107 hlp107 (by simpa using htp107) (fun w1 hw1 => (Own.row hw1 (i := 0) rfl (n := 1) (cap := 1) (vs := ints [(j : Int)]) rfl rfl (by decide))) ((ys21 ++ ([(j : Int)])).length) (by first | (simp; done) | (simp; omega)) (by first | (simp; done) | (simp; omega) | omega) fun p110 cap110 cur110 hp110 hcp110 hlp110 htp110 => ?_
             show Ll _ _ (Own _ _ (_ :: _ :: _ :: _ :: _ :: _ :: (new21 ++ ([])))) _ _ ((110, sl_ p110 (((ys21 ++ ([(j : Int)])).length)) cap110) :: _) _ _ _
             refine Ll.nil (Lv.joint (fun _ h => h.tail.tail.tail.tail) ?_)
             refine Lv.loud rfl ?_
             refine Ll.op (v := bo_ (secB a21 (xs21 ++ ([(i : Int)])) b21 (ys21 ++ ([(j : Int)])) (r21 - (1 : Int)))) rfl rfl rfl (OpQ.call rfl Tryd.call26 rfl Own.stable (fun w1 hw1 => iWins_ok a21 b21 (xs21 ++ ([(i : Int)])) (ys21 ++ ([(j : Int)])) (sl_ p103 (((xs21 ++ ([(i : Int)])).length)) cap103) (sl_ p110 (((ys21 ++ ([(j : Int)])).length)) cap110) w1 hsa21 hsb21 (Own.row hw1 (i := 2) rfl (by simpa using htp103) (by simp) hlp103) (Own.row hw1 (i := 3) rfl (by simpa using htp110) (by simp) hlp110) (by first | (simp; done) | (simp; omega) | omega) (by first | (simp; done) | (simp; omega) | omega) (r21 - (1 : Int)))) ?_
             refine Ll.nil (Lv.joint (fun _ h => h.tail.tail.tail.tail) ?_)
             refine Lv.run 2 rfl (fun _ h => h.tail.tail.tail.tail) ?_
             refine Lv.nil ?_
             refine Kt.sel [3, 4, 5, 6, 7, 8, 9, 10, 11, 12] [_, _, _, _, _, _, _, _, _, _] rfl ?_
             refine Wk.regionQ ?_
             refine Lq.run 1 rfl ?_
             refine Lq.op rfl rfl rfl (OpQ.add rfl rfl rfl (by omega) (by omega)) ?_
             refine Lq.run 1 rfl ?_
             refine Lq.nil ?_
             refine Kt.again (j + 1) (by omega) (by omega) (Sub.cons rfl (Sub.cons rfl (Sub.cons rfl (Sub.cons rfl (Sub.cons rfl (Sub.cons rfl (Sub.cons rfl (Sub.cons rfl (Sub.cons (by rw [someW_succ, hg96]; rfl) (Sub.sel [12] rfl)))))))))) (fun _ h => h.tail.tail.tail.tail)
            ·
             refine Ll.slice (xs := [.tmp 108]) (vs := [i6_ ((j : Int))]) Base.elem25 rfl rfl rfl rfl rfl rfl (by decide) rfl fun p109_1 hp109_1 => ?_
             refine Ll.nil (Lv.joint (fun _ h => h.tail.tail.tail.tail) ?_)
             refine Lv.loud rfl ?_
             refine Ll.appendInts (xs := []) (ys := ys21) Base.elem25 3 rfl rfl rfl rfl rfl rfl rfl rfl (by decide) rfl (fun w1 hw1 => (hIu21 _ (Own.dropR (Own.drop (f := [_, _, _, _, _, _]) hw1)))) ((ys21).length) (by first | (simp; done) | (simp; omega)) (by first | (simp; done) | (simp; omega) | omega) fun p107_1 cap107_1 cur107_1 hp107_1 hcp107_1 hlp107_1 htp107_1 => ?_
             show Ll _ _ (Own _ _ (_ :: _ :: _ :: _ :: _ :: _ :: (new21 ++ ([])))) _ _ ((107, sl_ p107_1 (((ys21).length)) cap107_1) :: _) _ _ _
             refine Ll.nil (Lv.joint (fun _ h => h.tail.tail.tail.tail) ?_)
             refine Lv.loud rfl ?_
             refine Ll.appendInts (xs := ys21) (ys := [(j : Int)]) Base.elem25 3 rfl rfl rfl rfl rfl rfl rfl hcp107_1 hlp107_1 (by simpa using htp107_1) (fun w1 hw1 => (Own.row hw1 (i := 0) rfl (n := 1) (cap := 1) (vs := ints [(j : Int)]) rfl rfl (by decide))) ((ys21 ++ ([(j : Int)])).length) (by first | (simp; done) | (simp; omega)) (by first | (simp; done) | (simp; omega) | omega) fun p110_1 cap110_1 cur110_1 hp110_1 hcp110_1 hlp110_1 htp110_1 => ?_
             show Ll _ _ (Own _ _ (_ :: _ :: _ :: _ :: _ :: _ :: (new21 ++ ([])))) _ _ ((110, sl_ p110_1 (((ys21 ++ ([(j : Int)])).length)) cap110_1) :: _) _ _ _
             refine Ll.nil (Lv.joint (fun _ h => h.tail.tail.tail.tail) ?_)
             refine Lv.loud rfl ?_
             refine Ll.op (v := bo_ (secB a21 (xs21 ++ ([(i : Int)])) b21 (ys21 ++ ([(j : Int)])) (r21 - (1 : Int)))) rfl rfl rfl (OpQ.call rfl Tryd.call26 rfl Own.stable (fun w1 hw1 => iWins_ok a21 b21 (xs21 ++ ([(i : Int)])) (ys21 ++ ([(j : Int)])) (sl_ p103 (((xs21 ++ ([(i : Int)])).length)) cap103) (sl_ p110_1 (((ys21 ++ ([(j : Int)])).length)) cap110_1) w1 hsa21 hsb21 (Own.row hw1 (i := 2) rfl (by simpa using htp103) (by simp) hlp103) (Own.row hw1 (i := 3) rfl (by simpa using htp110_1) (by simp) hlp110_1) (by first | (simp; done) | (simp; omega) | omega) (by first | (simp; done) | (simp; omega) | omega) (r21 - (1 : Int)))) ?_
             refine Ll.nil (Lv.joint (fun _ h => h.tail.tail.tail.tail) ?_)
             refine Lv.run 2 rfl (fun _ h => h.tail.tail.tail.tail) ?_
             refine Lv.nil ?_
             refine Kt.sel [3, 4, 5, 6, 7, 8, 9, 10, 11, 12] [_, _, _, _, _, _, _, _, _, _] rfl ?_
             refine Wk.regionQ ?_
             refine Lq.run 1 rfl ?_
             refine Lq.op rfl rfl rfl (OpQ.add rfl rfl rfl (by omega) (by omega)) ?_
             refine Lq.run 1 rfl ?_
             refine Lq.nil ?_
             refine Kt.again (j + 1) (by omega) (by omega) (Sub.cons rfl (Sub.cons rfl (Sub.cons rfl (Sub.cons rfl (Sub.cons rfl (Sub.cons rfl (Sub.cons rfl (Sub.cons rfl (Sub.cons (by rw [someW_succ, hg96]; rfl) (Sub.sel [12] rfl)))))))))) (fun _ h => h.tail.tail.tail.tail)
           refine Lv.share (σ := Nat × Nat × Nat × Array Value × Nat) lawFnSecondWins_o17_6x (fun ⟨p102, p103, cap103, cur103, p109⟩ => (cur103.size = cap103 * 1 ∧ (xs21 ++ ([(i : Int)])).length ≤ cap103 ∧ cur103.toList.take (xs21 ++ ([(i : Int)])).length = ints (xs21 ++ ([(i : Int)])))) (fun ⟨p102, p103, cap103, cur103, p109⟩ => [(3, pt_ p3), (4, v21), (5, pt_ p5), (6, u21), (7, i6_ r21), (8, bo_ (secB a21 xs21 b21 ys21 r21)), (9, bo_ (allW (secF a21 xs21 b21 ys21 r21) i b21.n.toNat)), (10, i6_ ((i : Int))), (11, bo_ (someW (secF a21 xs21 b21 ys21 r21) i j)), (12, i6_ ((j : Int))), (96, bo_ false), (97, vS a21), (103, sl_ p103 (((xs21 ++ ([(i : Int)])).length)) cap103), (104, vS b21), (106, u21), (109, sl_ p109 1 1), (112, i6_ (r21 - (1 : Int)))]) (fun ⟨p102, p103, cap103, cur103, p109⟩ => Own w.heap.size w (bk_ p102 #[i6_ ((i : Int))] 3 :: bk_ p103 cur103 3 :: bk_ p109 #[i6_ ((j : Int))] 3 :: bk_ p5 #[i6_ b21.n, str b21.set, str b21.rel] 24 :: bk_ p3 #[i6_ a21.n, str a21.set, str a21.rel] 24 :: (new21 ++ ([])))) ?_ fun H17__1 => ?_
           ·
            rintro ⟨p102, p103, cap103, cur103, p109⟩ ⟨hcp103, hlp103, htp103⟩
            dsimp only
            refine Lv.loud rfl ?_
            refine Ll.slice (xs := []) (vs := []) Base.elem25 rfl rfl rfl rfl rfl rfl (by decide) rfl fun p105 hp105 => ?_
            refine Ll.nil (Lv.joint (fun _ h => h.tail.tail.tail.tail) ?_)
            refine Lv.loud rfl ?_
            refine Ll.appendInts (xs := []) (ys := ys21) Base.elem25 0 rfl rfl rfl rfl rfl rfl rfl rfl (by decide) rfl (fun w1 hw1 => (hIu21 _ (Own.dropR (Own.drop (f := [_, _, _, _, _, _]) hw1)))) ((ys21).length) (by first | (simp; done) | (simp; omega)) (by first | (simp; done) | (simp; omega) | omega) fun p107_2 cap107_2 cur107_2 hp107_2 hcp107_2 hlp107_2 htp107_2 => ?_
            show Ll _ _ (Own _ _ (_ :: _ :: _ :: _ :: _ :: _ :: (new21 ++ ([])))) _ _ ((107, sl_ p107_2 (((ys21).length)) cap107_2) :: _) _ _ _
            refine Ll.nil (Lv.joint (fun _ h => h.tail.tail.tail.tail) ?_)
            refine Lv.loud rfl ?_
            refine Ll.appendInts (xs := ys21) (ys := [(j : Int)]) Base.elem25 0 rfl rfl rfl rfl rfl rfl rfl hcp107_2 hlp107_2 (by simpa using htp107_2) (fun w1 hw1 => (Own.row hw1 (i := 3) rfl (n := 1) (cap := 1) (vs := ints [(j : Int)]) rfl rfl (by decide))) ((ys21 ++ ([(j : Int)])).length) (by first | (simp; done) | (simp; omega)) (by first | (simp; done) | (simp; omega) | omega) fun p110_2 cap110_2 cur110_2 hp110_2 hcp110_2 hlp110_2 htp110_2 => ?_
            show Ll _ _ (Own _ _ (_ :: _ :: _ :: _ :: _ :: _ :: (new21 ++ ([])))) _ _ ((110, sl_ p110_2 (((ys21 ++ ([(j : Int)])).length)) cap110_2) :: _) _ _ _
            refine Ll.nil (Lv.joint (fun _ h => h.tail.tail.tail.tail) ?_)
            refine Lv.loud rfl ?_
            refine Ll.op (v := bo_ (secB a21 (xs21 ++ ([(i : Int)])) b21 (ys21 ++ ([(j : Int)])) (r21 - (1 : Int)))) rfl rfl rfl (OpQ.call rfl Tryd.call26 rfl Own.stable (fun w1 hw1 => iWins_ok a21 b21 (xs21 ++ ([(i : Int)])) (ys21 ++ ([(j : Int)])) (sl_ p103 (((xs21 ++ ([(i : Int)])).length)) cap103) (sl_ p110_2 (((ys21 ++ ([(j : Int)])).length)) cap110_2) w1 hsa21 hsb21 (Own.row hw1 (i := 2) rfl (by simpa using htp103) (by simp) hlp103) (Own.row hw1 (i := 0) rfl (by simpa using htp110_2) (by simp) hlp110_2) (by first | (simp; done) | (simp; omega) | omega) (by first | (simp; done) | (simp; omega) | omega) (r21 - (1 : Int)))) ?_
            refine Ll.nil (Lv.joint (fun _ h => h.tail.tail.tail.tail) ?_)
            refine Lv.run 2 rfl (fun _ h => h.tail.tail.tail.tail) ?_
            refine Lv.nil ?_
            refine Kt.sel [3, 4, 5, 6, 7, 8, 9, 10, 11, 12] [_, _, _, _, _, _, _, _, _, _] rfl ?_
            refine Wk.regionQ ?_
            refine Lq.run 1 rfl ?_
            refine Lq.op rfl rfl rfl (OpQ.add rfl rfl rfl (by omega) (by omega)) ?_
            refine Lq.run 1 rfl ?_
            refine Lq.nil ?_
            refine Kt.again (j + 1) (by omega) (by omega) (Sub.cons rfl (Sub.cons rfl (Sub.cons rfl (Sub.cons rfl (Sub.cons rfl (Sub.cons rfl (Sub.cons rfl (Sub.cons rfl (Sub.cons (by rw [someW_succ, hg96]; rfl) (Sub.sel [12] rfl)))))))))) (fun _ h => h.tail.tail.tail.tail)
           refine Lv.share (σ := Nat × Nat × Array Value × Nat × Nat × Nat) lawFnSecondWins_o17_5x (fun ⟨p100, cap100, cur100, p102, p105, p109⟩ => (cur100.size = cap100 * 1 ∧ (xs21).length ≤ cap100 ∧ cur100.toList.take (xs21).length = ints xs21)) (fun ⟨p100, cap100, cur100, p102, p105, p109⟩ => [(3, pt_ p3), (4, v21), (5, pt_ p5), (6, u21), (7, i6_ r21), (8, bo_ (secB a21 xs21 b21 ys21 r21)), (9, bo_ (allW (secF a21 xs21 b21 ys21 r21) i b21.n.toNat)), (10, i6_ ((i : Int))), (11, bo_ (someW (secF a21 xs21 b21 ys21 r21) i j)), (12, i6_ ((j : Int))), (96, bo_ false), (97, vS a21), (100, sl_ p100 (((xs21).length)) cap100), (102, sl_ p102 1 1), (104, vS b21), (105, sl_ p105 0 0), (106, u21), (109, sl_ p109 1 1), (112, i6_ (r21 - (1 : Int)))]) (fun ⟨p100, cap100, cur100, p102, p105, p109⟩ => Own w.heap.size w (bk_ p100 cur100 3 :: bk_ p102 #[i6_ ((i : Int))] 3 :: bk_ p105 #[] 3 :: bk_ p109 #[i6_ ((j : Int))] 3 :: bk_ p5 #[i6_ b21.n, str b21.set, str b21.rel] 24 :: bk_ p3 #[i6_ a21.n, str a21.set, str a21.rel] 24 :: (new21 ++ ([])))) ?_ fun H17__2 => ?_
           ·
            rintro ⟨p100, cap100, cur100, p102, p105, p109⟩ ⟨hcp100, hlp100, htp100⟩
            dsimp only
            refine Lv.loud rfl ?_
            refine Ll.appendInts (xs := xs21) (ys := [(i : Int)]) Base.elem25 0 rfl rfl rfl rfl rfl rfl rfl hcp100 hlp100 (by simpa using htp100) (fun w1 hw1 => (Own.row hw1 (i := 1) rfl (n := 1) (cap := 1) (vs := ints [(i : Int)]) rfl rfl (by decide))) ((xs21 ++ ([(i : Int)])).length) (by first | (simp; done) | (simp; omega)) (by first | (simp; done) | (simp; omega) | omega) fun p103 cap103 cur103 hp103 hcp103 hlp103 htp103 => ?_
            show Ll _ _ (Own _ _ (_ :: _ :: _ :: _ :: _ :: _ :: (new21 ++ ([])))) _ _ ((103, sl_ p103 (((xs21 ++ ([(i : Int)])).length)) cap103) :: _) _ _ _
            refine Ll.nil (Lv.joint (fun _ h => h.tail.tail.tail.tail) ?_)
            refine Lv.loud rfl ?_
            refine Ll.appendInts (xs := []) (ys := ys21) Base.elem25 2 rfl rfl rfl rfl rfl rfl rfl rfl (by decide) rfl (fun w1 hw1 => (hIu21 _ (Own.dropR (Own.drop (f := [_, _, _, _, _, _]) hw1)))) ((ys21).length) (by first | (simp; done) | (simp; omega)) (by first | (simp; done) | (simp; omega) | omega) fun p107_3 cap107_3 cur107_3 hp107_3 hcp107_3 hlp107_3 htp107_3 => ?_
            show Ll _ _ (Own _ _ (_ :: _ :: _ :: _ :: _ :: _ :: (new21 ++ ([])))) _ _ ((107, sl_ p107_3 (((ys21).length)) cap107_3) :: _) _ _ _
            refine Ll.nil (Lv.joint (fun _ h => h.tail.tail.tail.tail) ?_)
            refine Lv.loud rfl ?_
            refine Ll.appendInts (xs := ys21) (ys := [(j : Int)]) Base.elem25 2 rfl rfl rfl rfl rfl rfl rfl hcp107_3 hlp107_3 (by simpa using htp107_3) (fun w1 hw1 => (Own.row hw1 (i := 3) rfl (n := 1) (cap := 1) (vs := ints [(j : Int)]) rfl rfl (by decide))) ((ys21 ++ ([(j : Int)])).length) (by first | (simp; done) | (simp; omega)) (by first | (simp; done) | (simp; omega) | omega) fun p110_3 cap110_3 cur110_3 hp110_3 hcp110_3 hlp110_3 htp110_3 => ?_
            show Ll _ _ (Own _ _ (_ :: _ :: _ :: _ :: _ :: _ :: (new21 ++ ([])))) _ _ ((110, sl_ p110_3 (((ys21 ++ ([(j : Int)])).length)) cap110_3) :: _) _ _ _
            refine Ll.nil (Lv.joint (fun _ h => h.tail.tail.tail.tail) ?_)
            refine Lv.loud rfl ?_
            refine Ll.op (v := bo_ (secB a21 (xs21 ++ ([(i : Int)])) b21 (ys21 ++ ([(j : Int)])) (r21 - (1 : Int)))) rfl rfl rfl (OpQ.call rfl Tryd.call26 rfl Own.stable (fun w1 hw1 => iWins_ok a21 b21 (xs21 ++ ([(i : Int)])) (ys21 ++ ([(j : Int)])) (sl_ p103 (((xs21 ++ ([(i : Int)])).length)) cap103) (sl_ p110_3 (((ys21 ++ ([(j : Int)])).length)) cap110_3) w1 hsa21 hsb21 (Own.row hw1 (i := 0) rfl (by simpa using htp103) (by simp) hlp103) (Own.row hw1 (i := 2) rfl (by simpa using htp110_3) (by simp) hlp110_3) (by first | (simp; done) | (simp; omega) | omega) (by first | (simp; done) | (simp; omega) | omega) (r21 - (1 : Int)))) ?_
            refine Ll.nil (Lv.joint (fun _ h => h.tail.tail.tail.tail) ?_)
            refine Lv.run 2 rfl (fun _ h => h.tail.tail.tail.tail) ?_
            refine Lv.nil ?_
            refine Kt.sel [3, 4, 5, 6, 7, 8, 9, 10, 11, 12] [_, _, _, _, _, _, _, _, _, _] rfl ?_
            refine Wk.regionQ ?_
            refine Lq.run 1 rfl ?_
            refine Lq.op rfl rfl rfl (OpQ.add rfl rfl rfl (by omega) (by omega)) ?_
            refine Lq.run 1 rfl ?_
            refine Lq.nil ?_
            refine Kt.again (j + 1) (by omega) (by omega) (Sub.cons rfl (Sub.cons rfl (Sub.cons rfl (Sub.cons rfl (Sub.cons rfl (Sub.cons rfl (Sub.cons rfl (Sub.cons rfl (Sub.cons (by rw [someW_succ, hg96]; rfl) (Sub.sel [12] rfl)))))))))) (fun _ h => h.tail.tail.tail.tail)
           refine Lv.share (σ := Nat × Nat × Array Value × Nat × Nat) lawFnSecondWins_o17_16x (fun ⟨p100, cap100, cur100, p102, p105⟩ => (cur100.size = cap100 * 1 ∧ (xs21).length ≤ cap100 ∧ cur100.toList.take (xs21).length = ints xs21)) (fun ⟨p100, cap100, cur100, p102, p105⟩ => [(3, pt_ p3), (4, v21), (5, pt_ p5), (6, u21), (7, i6_ r21), (8, bo_ (secB a21 xs21 b21 ys21 r21)), (9, bo_ (allW (secF a21 xs21 b21 ys21 r21) i b21.n.toNat)), (10, i6_ ((i : Int))), (11, bo_ (someW (secF a21 xs21 b21 ys21 r21) i j)), (12, i6_ ((j : Int))), (96, bo_ false), (97, vS a21), (100, sl_ p100 (((xs21).length)) cap100), (102, sl_ p102 1 1), (104, vS b21), (105, sl_ p105 0 0), (106, u21), (108, i6_ ((j : Int))), (112, i6_ (r21 - (1 : Int)))]) (fun ⟨p100, cap100, cur100, p102, p105⟩ => Own w.heap.size w (bk_ p100 cur100 3 :: bk_ p102 #[i6_ ((i : Int))] 3 :: bk_ p105 #[] 3 :: bk_ p5 #[i6_ b21.n, str b21.set, str b21.rel] 24 :: bk_ p3 #[i6_ a21.n, str a21.set, str a21.rel] 24 :: (new21 ++ ([])))) ?_ fun H17__3 => ?_
           ·
            rintro ⟨p100, cap100, cur100, p102, p105⟩ ⟨hcp100, hlp100, htp100⟩
            dsimp only
            refine Lv.alt rfl ?_ (Lv.loud rfl ?_)
            ·
             refine Ll.appendInts (xs := xs21) (ys := [(i : Int)]) Base.elem25 0 rfl rfl rfl rfl rfl rfl rfl hcp100 hlp100 (by simpa using htp100) (fun w1 hw1 => (Own.row hw1 (i := 1) rfl (n := 1) (cap := 1) (vs := ints [(i : Int)]) rfl rfl (by decide))) ((xs21 ++ ([(i : Int)])).length) (by first | (simp; done) | (simp; omega)) (by first | (simp; done) | (simp; omega) | omega) fun p103_1 cap103_1 cur103_1 hp103_1 hcp103_1 hlp103_1 htp103_1 => ?_
             show Ll _ _ (Own _ _ (_ :: _ :: _ :: _ :: _ :: (new21 ++ ([])))) _ _ ((103, sl_ p103_1 (((xs21 ++ ([(i : Int)])).length)) cap103_1) :: _) _ _ _
             refine Ll.nil (Lv.joint (fun _ h => h.tail.tail.tail) ?_)
             exact Lv.to (H17_ ⟨p102, p103_1, cap103_1, cur103_1, p105⟩ ⟨by simpa using hcp103_1, hlp103_1, by simpa using (by simpa using htp103_1)⟩) (Sub.sel [3, 4, 5, 6, 7, 8, 9, 10, 11, 12, 96, 97, 103, 104, 105, 106, 108, 112] rfl) (fun _ h => Own.pickT (hs := [_, _, _]) (hs' := [_, _, _]) h [1, 0, 2] rfl (by decide))
            ·
             refine Ll.slice (xs := [.tmp 108]) (vs := [i6_ ((j : Int))]) Base.elem25 rfl rfl rfl rfl rfl rfl (by decide) rfl fun p109_2 hp109_2 => ?_
             refine Ll.nil (Lv.joint (fun _ h => h.tail.tail.tail.tail) ?_)
             exact Lv.to (H17__2 ⟨p100, cap100, cur100, p102, p105, p109_2⟩ ⟨by simpa using hcp100, hlp100, by simpa using (by simpa using htp100)⟩) (Sub.sel [3, 4, 5, 6, 7, 8, 9, 10, 11, 12, 96, 97, 100, 102, 104, 105, 106, 109, 112] rfl) (fun _ h => Own.pickT (hs := [_, _, _, _]) (hs' := [_, _, _, _]) h [1, 2, 3, 0] rfl (by decide))
           refine Lv.share (σ := Nat × Nat × Array Value × Nat × Nat) lawFnSecondWins_o17_7x (fun ⟨p100, cap100, cur100, p102, p109⟩ => (cur100.size = cap100 * 1 ∧ (xs21).length ≤ cap100 ∧ cur100.toList.take (xs21).length = ints xs21)) (fun ⟨p100, cap100, cur100, p102, p109⟩ => [(3, pt_ p3), (4, v21), (5, pt_ p5), (6, u21), (7, i6_ r21), (8, bo_ (secB a21 xs21 b21 ys21 r21)), (9, bo_ (allW (secF a21 xs21 b21 ys21 r21) i b21.n.toNat)), (10, i6_ ((i : Int))), (11, bo_ (someW (secF a21 xs21 b21 ys21 r21) i j)), (12, i6_ ((j : Int))), (96, bo_ false), (97, vS a21), (100, sl_ p100 (((xs21).length)) cap100), (102, sl_ p102 1 1), (104, vS b21), (106, u21), (109, sl_ p109 1 1), (112, i6_ (r21 - (1 : Int)))]) (fun ⟨p100, cap100, cur100, p102, p109⟩ => Own w.heap.size w (bk_ p100 cur100 3 :: bk_ p102 #[i6_ ((i : Int))] 3 :: bk_ p109 #[i6_ ((j : Int))] 3 :: bk_ p5 #[i6_ b21.n, str b21.set, str b21.rel] 24 :: bk_ p3 #[i6_ a21.n, str a21.set, str a21.rel] 24 :: (new21 ++ ([])))) ?_ fun H17__4 => ?_
           ·
            rintro ⟨p100, cap100, cur100, p102, p109⟩ ⟨hcp100, hlp100, htp100⟩
            dsimp only
            refine Lv.alt rfl ?_ (Lv.loud rfl ?_)
            ·
             refine Ll.appendInts (xs := xs21) (ys := [(i : Int)]) Base.elem25 0 rfl rfl rfl rfl rfl rfl rfl hcp100 hlp100 (by simpa using htp100) (fun w1 hw1 => (Own.row hw1 (i := 1) rfl (n := 1) (cap := 1) (vs := ints [(i : Int)]) rfl rfl (by decide))) ((xs21 ++ ([(i : Int)])).length) (by first | (simp; done) | (simp; omega)) (by first | (simp; done) | (simp; omega) | omega) fun p103_2 cap103_2 cur103_2 hp103_2 hcp103_2 hlp103_2 htp103_2 => ?_
             show Ll _ _ (Own _ _ (_ :: _ :: _ :: _ :: _ :: (new21 ++ ([])))) _ _ ((103, sl_ p103_2 (((xs21 ++ ([(i : Int)])).length)) cap103_2) :: _) _ _ _
             refine Ll.nil (Lv.joint (fun _ h => h.tail.tail.tail) ?_)
             exact Lv.to (H17__1 ⟨p102, p103_2, cap103_2, cur103_2, p109⟩ ⟨by simpa using hcp103_2, hlp103_2, by simpa using (by simpa using htp103_2)⟩) (Sub.sel [3, 4, 5, 6, 7, 8, 9, 10, 11, 12, 96, 97, 103, 104, 106, 109, 112] rfl) (fun _ h => Own.pickT (hs := [_, _, _]) (hs' := [_, _, _]) h [1, 0, 2] rfl (by decide))
            ·
             refine Ll.slice (xs := []) (vs := []) Base.elem25 rfl rfl rfl rfl rfl rfl (by decide) rfl fun p105_1 hp105_1 => ?_
             refine Ll.nil (Lv.joint (fun _ h => h.tail.tail.tail.tail) ?_)
             exact Lv.to (H17__2 ⟨p100, cap100, cur100, p102, p105_1, p109⟩ ⟨by simpa using hcp100, hlp100, by simpa using (by simpa using htp100)⟩) (Sub.sel [3, 4, 5, 6, 7, 8, 9, 10, 11, 12, 96, 97, 100, 102, 104, 105, 106, 109, 112] rfl) (fun _ h => Own.pickT (hs := [_, _, _, _]) (hs' := [_, _, _, _]) h [1, 2, 0, 3] rfl (by decide))
           refine Lv.share (σ := Nat × Nat × Array Value × Nat × Nat) lawFnSecondWins_o17_2x (fun ⟨p100, cap100, cur100, p105, p109⟩ => (cur100.size = cap100 * 1 ∧ (xs21).length ≤ cap100 ∧ cur100.toList.take (xs21).length = ints xs21)) (fun ⟨p100, cap100, cur100, p105, p109⟩ => [(3, pt_ p3), (4, v21), (5, pt_ p5), (6, u21), (7, i6_ r21), (8, bo_ (secB a21 xs21 b21 ys21 r21)), (9, bo_ (allW (secF a21 xs21 b21 ys21 r21) i b21.n.toNat)), (10, i6_ ((i : Int))), (11, bo_ (someW (secF a21 xs21 b21 ys21 r21) i j)), (12, i6_ ((j : Int))), (96, bo_ false), (97, vS a21), (100, sl_ p100 (((xs21).length)) cap100), (101, i6_ ((i : Int))), (104, vS b21), (105, sl_ p105 0 0), (106, u21), (109, sl_ p109 1 1), (112, i6_ (r21 - (1 : Int)))]) (fun ⟨p100, cap100, cur100, p105, p109⟩ => Own w.heap.size w (bk_ p100 cur100 3 :: bk_ p105 #[] 3 :: bk_ p109 #[i6_ ((j : Int))] 3 :: bk_ p5 #[i6_ b21.n, str b21.set, str b21.rel] 24 :: bk_ p3 #[i6_ a21.n, str a21.set, str a21.rel] 24 :: (new21 ++ ([])))) ?_ fun H17__5 => ?_
           ·
            rintro ⟨p100, cap100, cur100, p105, p109⟩ ⟨hcp100, hlp100, htp100⟩
            dsimp only
            refine Lv.loud rfl ?_
            refine Ll.slice (xs := [.tmp 101]) (vs := [i6_ ((i : Int))]) Base.elem25 rfl rfl rfl rfl rfl rfl (by decide) rfl fun p102 hp102 => ?_
            refine Ll.nil (Lv.joint (fun _ h => h.tail.tail.tail.tail) ?_)
            refine Lv.loud rfl ?_
            refine Ll.appendInts (xs := xs21) (ys := [(i : Int)]) Base.elem25 1 rfl rfl rfl rfl rfl rfl rfl hcp100 hlp100 (by simpa using htp100) (fun w1 hw1 => (Own.row hw1 (i := 0) rfl (n := 1) (cap := 1) (vs := ints [(i : Int)]) rfl rfl (by decide))) ((xs21 ++ ([(i : Int)])).length) (by first | (simp; done) | (simp; omega)) (by first | (simp; done) | (simp; omega) | omega) fun p103_3 cap103_3 cur103_3 hp103_3 hcp103_3 hlp103_3 htp103_3 => ?_
            show Ll _ _ (Own _ _ (_ :: _ :: _ :: _ :: _ :: _ :: (new21 ++ ([])))) _ _ ((103, sl_ p103_3 (((xs21 ++ ([(i : Int)])).length)) cap103_3) :: _) _ _ _
            refine Ll.nil (Lv.joint (fun _ h => h.tail.tail.tail.tail) ?_)
            refine Lv.loud rfl ?_
            refine Ll.appendInts (xs := []) (ys := ys21) Base.elem25 2 rfl rfl rfl rfl rfl rfl rfl rfl (by decide) rfl (fun w1 hw1 => (hIu21 _ (Own.dropR (Own.drop (f := [_, _, _, _, _, _]) hw1)))) ((ys21).length) (by first | (simp; done) | (simp; omega)) (by first | (simp; done) | (simp; omega) | omega) fun p107_4 cap107_4 cur107_4 hp107_4 hcp107_4 hlp107_4 htp107_4 => ?_
            show Ll _ _ (Own _ _ (_ :: _ :: _ :: _ :: _ :: _ :: (new21 ++ ([])))) _ _ ((107, sl_ p107_4 (((ys21).length)) cap107_4) :: _) _ _ _
            refine Ll.nil (Lv.joint (fun _ h => h.tail.tail.tail.tail) ?_)
            refine Lv.loud rfl ?_
            refine Ll.appendInts (xs := ys21) (ys := [(j : Int)]) Base.elem25 2 rfl rfl rfl rfl rfl rfl rfl hcp107_4 hlp107_4 (by simpa using htp107_4) (fun w1 hw1 => (Own.row hw1 (i := 3) rfl (n := 1) (cap := 1) (vs := ints [(j : Int)]) rfl rfl (by decide))) ((ys21 ++ ([(j : Int)])).length) (by first | (simp; done) | (simp; omega)) (by first | (simp; done) | (simp; omega) | omega) fun p110_4 cap110_4 cur110_4 hp110_4 hcp110_4 hlp110_4 htp110_4 => ?_
            show Ll _ _ (Own _ _ (_ :: _ :: _ :: _ :: _ :: _ :: (new21 ++ ([])))) _ _ ((110, sl_ p110_4 (((ys21 ++ ([(j : Int)])).length)) cap110_4) :: _) _ _ _
            refine Ll.nil (Lv.joint (fun _ h => h.tail.tail.tail.tail) ?_)
            refine Lv.loud rfl ?_
            refine Ll.op (v := bo_ (secB a21 (xs21 ++ ([(i : Int)])) b21 (ys21 ++ ([(j : Int)])) (r21 - (1 : Int)))) rfl rfl rfl (OpQ.call rfl Tryd.call26 rfl Own.stable (fun w1 hw1 => iWins_ok a21 b21 (xs21 ++ ([(i : Int)])) (ys21 ++ ([(j : Int)])) (sl_ p103_3 (((xs21 ++ ([(i : Int)])).length)) cap103_3) (sl_ p110_4 (((ys21 ++ ([(j : Int)])).length)) cap110_4) w1 hsa21 hsb21 (Own.row hw1 (i := 1) rfl (by simpa using htp103_3) (by simp) hlp103_3) (Own.row hw1 (i := 2) rfl (by simpa using htp110_4) (by simp) hlp110_4) (by first | (simp; done) | (simp; omega) | omega) (by first | (simp; done) | (simp; omega) | omega) (r21 - (1 : Int)))) ?_
            refine Ll.nil (Lv.joint (fun _ h => h.tail.tail.tail.tail) ?_)
            refine Lv.run 2 rfl (fun _ h => h.tail.tail.tail.tail) ?_
            refine Lv.nil ?_
            refine Kt.sel [3, 4, 5, 6, 7, 8, 9, 10, 11, 12] [_, _, _, _, _, _, _, _, _, _] rfl ?_
            refine Wk.regionQ ?_
            refine Lq.run 1 rfl ?_
            refine Lq.op rfl rfl rfl (OpQ.add rfl rfl rfl (by omega) (by omega)) ?_
            refine Lq.run 1 rfl ?_
            refine Lq.nil ?_
            refine Kt.again (j + 1) (by omega) (by omega) (Sub.cons rfl (Sub.cons rfl (Sub.cons rfl (Sub.cons rfl (Sub.cons rfl (Sub.cons rfl (Sub.cons rfl (Sub.cons rfl (Sub.cons (by rw [someW_succ, hg96]; rfl) (Sub.sel [12] rfl)))))))))) (fun _ h => h.tail.tail.tail.tail)
           refine Lv.share (σ := Nat × Nat × Nat × Nat) lawFnSecondWins_o17_1x (fun ⟨p98, p102, p105, p109⟩ => True) (fun ⟨p98, p102, p105, p109⟩ => [(3, pt_ p3), (4, v21), (5, pt_ p5), (6, u21), (7, i6_ r21), (8, bo_ (secB a21 xs21 b21 ys21 r21)), (9, bo_ (allW (secF a21 xs21 b21 ys21 r21) i b21.n.toNat)), (10, i6_ ((i : Int))), (11, bo_ (someW (secF a21 xs21 b21 ys21 r21) i j)), (12, i6_ ((j : Int))), (96, bo_ false), (97, vS a21), (98, sl_ p98 0 0), (99, v21), (102, sl_ p102 1 1), (104, vS b21), (105, sl_ p105 0 0), (106, u21), (109, sl_ p109 1 1), (112, i6_ (r21 - (1 : Int)))]) (fun ⟨p98, p102, p105, p109⟩ => Own w.heap.size w (bk_ p98 #[] 3 :: bk_ p102 #[i6_ ((i : Int))] 3 :: bk_ p105 #[] 3 :: bk_ p109 #[i6_ ((j : Int))] 3 :: bk_ p5 #[i6_ b21.n, str b21.set, str b21.rel] 24 :: bk_ p3 #[i6_ a21.n, str a21.set, str a21.rel] 24 :: (new21 ++ ([])))) ?_ fun H17__6 => ?_
           ·
            rintro ⟨p98, p102, p105, p109⟩ -
            dsimp only
            refine Lv.loud rfl ?_
            refine Ll.appendInts (xs := []) (ys := xs21) Base.elem25 0 rfl rfl rfl rfl rfl rfl rfl rfl (by decide) rfl (fun w1 hw1 => (hIv21 _ (Own.dropR (Own.drop (f := [_, _, _, _, _, _]) hw1)))) ((xs21).length) (by first | (simp; done) | (simp; omega)) (by first | (simp; done) | (simp; omega) | omega) fun p100 cap100 cur100 hp100 hcp100 hlp100 htp100 => ?_
            show Ll _ _ (Own _ _ (_ :: _ :: _ :: _ :: _ :: _ :: (new21 ++ ([])))) _ _ ((100, sl_ p100 (((xs21).length)) cap100) :: _) _ _ _
            refine Ll.nil (Lv.joint (fun _ h => h.tail.tail.tail.tail) ?_)
            refine Lv.loud rfl ?_
            refine Ll.appendInts (xs := xs21) (ys := [(i : Int)]) Base.elem25 0 rfl rfl rfl rfl rfl rfl rfl hcp100 hlp100 (by simpa using htp100) (fun w1 hw1 => (Own.row hw1 (i := 1) rfl (n := 1) (cap := 1) (vs := ints [(i : Int)]) rfl rfl (by decide))) ((xs21 ++ ([(i : Int)])).length) (by first | (simp; done) | (simp; omega)) (by first | (simp; done) | (simp; omega) | omega) fun p103_4 cap103_4 cur103_4 hp103_4 hcp103_4 hlp103_4 htp103_4 => ?_
            show Ll _ _ (Own _ _ (_ :: _ :: _ :: _ :: _ :: _ :: (new21 ++ ([])))) _ _ ((103, sl_ p103_4 (((xs21 ++ ([(i : Int)])).length)) cap103_4) :: _) _ _ _
            refine Ll.nil (Lv.joint (fun _ h => h.tail.tail.tail.tail) ?_)
            refine Lv.loud rfl ?_
            refine Ll.appendInts (xs := []) (ys := ys21) Base.elem25 2 rfl rfl rfl rfl rfl rfl rfl rfl (by decide) rfl (fun w1 hw1 => (hIu21 _ (Own.dropR (Own.drop (f := [_, _, _, _, _, _]) hw1)))) ((ys21).length) (by first | (simp; done) | (simp; omega)) (by first | (simp; done) | (simp; omega) | omega) fun p107_5 cap107_5 cur107_5 hp107_5 hcp107_5 hlp107_5 htp107_5 => ?_
            show Ll _ _ (Own _ _ (_ :: _ :: _ :: _ :: _ :: _ :: (new21 ++ ([])))) _ _ ((107, sl_ p107_5 (((ys21).length)) cap107_5) :: _) _ _ _
            refine Ll.nil (Lv.joint (fun _ h => h.tail.tail.tail.tail) ?_)
            refine Lv.loud rfl ?_
            refine Ll.appendInts (xs := ys21) (ys := [(j : Int)]) Base.elem25 2 rfl rfl rfl rfl rfl rfl rfl hcp107_5 hlp107_5 (by simpa using htp107_5) (fun w1 hw1 => (Own.row hw1 (i := 3) rfl (n := 1) (cap := 1) (vs := ints [(j : Int)]) rfl rfl (by decide))) ((ys21 ++ ([(j : Int)])).length) (by first | (simp; done) | (simp; omega)) (by first | (simp; done) | (simp; omega) | omega) fun p110_5 cap110_5 cur110_5 hp110_5 hcp110_5 hlp110_5 htp110_5 => ?_
            show Ll _ _ (Own _ _ (_ :: _ :: _ :: _ :: _ :: _ :: (new21 ++ ([])))) _ _ ((110, sl_ p110_5 (((ys21 ++ ([(j : Int)])).length)) cap110_5) :: _) _ _ _
            refine Ll.nil (Lv.joint (fun _ h => h.tail.tail.tail.tail) ?_)
            refine Lv.loud rfl ?_
            refine Ll.op (v := bo_ (secB a21 (xs21 ++ ([(i : Int)])) b21 (ys21 ++ ([(j : Int)])) (r21 - (1 : Int)))) rfl rfl rfl (OpQ.call rfl Tryd.call26 rfl Own.stable (fun w1 hw1 => iWins_ok a21 b21 (xs21 ++ ([(i : Int)])) (ys21 ++ ([(j : Int)])) (sl_ p103_4 (((xs21 ++ ([(i : Int)])).length)) cap103_4) (sl_ p110_5 (((ys21 ++ ([(j : Int)])).length)) cap110_5) w1 hsa21 hsb21 (Own.row hw1 (i := 0) rfl (by simpa using htp103_4) (by simp) hlp103_4) (Own.row hw1 (i := 2) rfl (by simpa using htp110_5) (by simp) hlp110_5) (by first | (simp; done) | (simp; omega) | omega) (by first | (simp; done) | (simp; omega) | omega) (r21 - (1 : Int)))) ?_
            refine Ll.nil (Lv.joint (fun _ h => h.tail.tail.tail.tail) ?_)
            refine Lv.run 2 rfl (fun _ h => h.tail.tail.tail.tail) ?_
            refine Lv.nil ?_
            refine Kt.sel [3, 4, 5, 6, 7, 8, 9, 10, 11, 12] [_, _, _, _, _, _, _, _, _, _] rfl ?_
            refine Wk.regionQ ?_
            refine Lq.run 1 rfl ?_
            refine Lq.op rfl rfl rfl (OpQ.add rfl rfl rfl (by omega) (by omega)) ?_
            refine Lq.run 1 rfl ?_
            refine Lq.nil ?_
            refine Kt.again (j + 1) (by omega) (by omega) (Sub.cons rfl (Sub.cons rfl (Sub.cons rfl (Sub.cons rfl (Sub.cons rfl (Sub.cons rfl (Sub.cons rfl (Sub.cons rfl (Sub.cons (by rw [someW_succ, hg96]; rfl) (Sub.sel [12] rfl)))))))))) (fun _ h => h.tail.tail.tail.tail)
           refine Lv.share (σ := Nat × Nat × Array Value × Nat) lawFnSecondWins_o17_23x (fun ⟨p100, cap100, cur100, p102⟩ => (cur100.size = cap100 * 1 ∧ (xs21).length ≤ cap100 ∧ cur100.toList.take (xs21).length = ints xs21)) (fun ⟨p100, cap100, cur100, p102⟩ => [(3, pt_ p3), (4, v21), (5, pt_ p5), (6, u21), (7, i6_ r21), (8, bo_ (secB a21 xs21 b21 ys21 r21)), (9, bo_ (allW (secF a21 xs21 b21 ys21 r21) i b21.n.toNat)), (10, i6_ ((i : Int))), (11, bo_ (someW (secF a21 xs21 b21 ys21 r21) i j)), (12, i6_ ((j : Int))), (96, bo_ false), (97, vS a21), (100, sl_ p100 (((xs21).length)) cap100), (102, sl_ p102 1 1), (104, vS b21), (106, u21), (108, i6_ ((j : Int))), (112, i6_ (r21 - (1 : Int)))]) (fun ⟨p100, cap100, cur100, p102⟩ => Own w.heap.size w (bk_ p100 cur100 3 :: bk_ p102 #[i6_ ((i : Int))] 3 :: bk_ p5 #[i6_ b21.n, str b21.set, str b21.rel] 24 :: bk_ p3 #[i6_ a21.n, str a21.set, str a21.rel] 24 :: (new21 ++ ([])))) ?_ fun H17__7 => ?_
           ·
            rintro ⟨p100, cap100, cur100, p102⟩ ⟨hcp100, hlp100, htp100⟩
            dsimp only
            refine Lv.alt rfl ?_ (Lv.alt rfl ?_ (Lv.loud rfl ?_))
            ·
             refine Ll.appendInts (xs := xs21) (ys := [(i : Int)]) Base.elem25 0 rfl rfl rfl rfl rfl rfl rfl hcp100 hlp100 (by simpa using htp100) (fun w1 hw1 => (Own.row hw1 (i := 1) rfl (n := 1) (cap := 1) (vs := ints [(i : Int)]) rfl rfl (by decide))) ((xs21 ++ ([(i : Int)])).length) (by first | (simp; done) | (simp; omega)) (by first | (simp; done) | (simp; omega) | omega) fun p103_5 cap103_5 cur103_5 hp103_5 hcp103_5 hlp103_5 htp103_5 => ?_
             show Ll _ _ (Own _ _ (_ :: _ :: _ :: _ :: (new21 ++ ([])))) _ _ ((103, sl_ p103_5 (((xs21 ++ ([(i : Int)])).length)) cap103_5) :: _) _ _ _
             refine Ll.nil (Lv.joint (fun _ h => h.tail.tail) ?_)
             refine Lv.alt rfl ?_ (Lv.loud rfl ?_)
             ·
              refine Ll.slice (xs := []) (vs := []) Base.elem25 rfl rfl rfl rfl rfl rfl (by decide) rfl fun p105_2 hp105_2 => ?_
              refine Ll.nil (Lv.joint (fun _ h => h.tail.tail.tail) ?_)
              exact Lv.to (H17_ ⟨p102, p103_5, cap103_5, cur103_5, p105_2⟩ ⟨by simpa using hcp103_5, hlp103_5, by simpa using (by simpa using htp103_5)⟩) (Sub.sel [3, 4, 5, 6, 7, 8, 9, 10, 11, 12, 96, 97, 103, 104, 105, 106, 108, 112] rfl) (fun _ h => Own.pickT (hs := [_, _, _]) (hs' := [_, _, _]) h [2, 1, 0] rfl (by decide))
             ·
              refine Ll.slice (xs := [.tmp 108]) (vs := [i6_ ((j : Int))]) Base.elem25 rfl rfl rfl rfl rfl rfl (by decide) rfl fun p109_3 hp109_3 => ?_
              refine Ll.nil (Lv.joint (fun _ h => h.tail.tail.tail) ?_)
              exact Lv.to (H17__1 ⟨p102, p103_5, cap103_5, cur103_5, p109_3⟩ ⟨by simpa using hcp103_5, hlp103_5, by simpa using (by simpa using htp103_5)⟩) (Sub.sel [3, 4, 5, 6, 7, 8, 9, 10, 11, 12, 96, 97, 103, 104, 106, 109, 112] rfl) (fun _ h => Own.pickT (hs := [_, _, _]) (hs' := [_, _, _]) h [2, 1, 0] rfl (by decide))
            ·
             refine Ll.slice (xs := []) (vs := []) Base.elem25 rfl rfl rfl rfl rfl rfl (by decide) rfl fun p105_3 hp105_3 => ?_
             refine Ll.nil (Lv.joint (fun _ h => h.tail.tail.tail) ?_)
             exact Lv.to (H17__3 ⟨p100, cap100, cur100, p102, p105_3⟩ ⟨by simpa using hcp100, hlp100, by simpa using (by simpa using htp100)⟩) (Sub.sel [3, 4, 5, 6, 7, 8, 9, 10, 11, 12, 96, 97, 100, 102, 104, 105, 106, 108, 112] rfl) (fun _ h => Own.pickT (hs := [_, _, _]) (hs' := [_, _, _]) h [1, 2, 0] rfl (by decide))
            ·
             refine Ll.slice (xs := [.tmp 108]) (vs := [i6_ ((j : Int))]) Base.elem25 rfl rfl rfl rfl rfl rfl (by decide) rfl fun p109_4 hp109_4 => ?_
             refine Ll.nil (Lv.joint (fun _ h => h.tail.tail.tail) ?_)
             exact Lv.to (H17__4 ⟨p100, cap100, cur100, p102, p109_4⟩ ⟨by simpa using hcp100, hlp100, by simpa using (by simpa using htp100)⟩) (Sub.sel [3, 4, 5, 6, 7, 8, 9, 10, 11, 12, 96, 97, 100, 102, 104, 106, 109, 112] rfl) (fun _ h => Own.pickT (hs := [_, _, _]) (hs' := [_, _, _]) h [1, 2, 0] rfl (by decide))
           refine Lv.share (σ := Nat × Nat × Array Value × Nat) lawFnSecondWins_o17_19x (fun ⟨p100, cap100, cur100, p105⟩ => (cur100.size = cap100 * 1 ∧ (xs21).length ≤ cap100 ∧ cur100.toList.take (xs21).length = ints xs21)) (fun ⟨p100, cap100, cur100, p105⟩ => [(3, pt_ p3), (4, v21), (5, pt_ p5), (6, u21), (7, i6_ r21), (8, bo_ (secB a21 xs21 b21 ys21 r21)), (9, bo_ (allW (secF a21 xs21 b21 ys21 r21) i b21.n.toNat)), (10, i6_ ((i : Int))), (11, bo_ (someW (secF a21 xs21 b21 ys21 r21) i j)), (12, i6_ ((j : Int))), (96, bo_ false), (97, vS a21), (100, sl_ p100 (((xs21).length)) cap100), (101, i6_ ((i : Int))), (104, vS b21), (105, sl_ p105 0 0), (106, u21), (108, i6_ ((j : Int))), (112, i6_ (r21 - (1 : Int)))]) (fun ⟨p100, cap100, cur100, p105⟩ => Own w.heap.size w (bk_ p100 cur100 3 :: bk_ p105 #[] 3 :: bk_ p5 #[i6_ b21.n, str b21.set, str b21.rel] 24 :: bk_ p3 #[i6_ a21.n, str a21.set, str a21.rel] 24 :: (new21 ++ ([])))) ?_ fun H17__8 => ?_
           ·
            rintro ⟨p100, cap100, cur100, p105⟩ ⟨hcp100, hlp100, htp100⟩
            dsimp only
            refine Lv.alt rfl ?_ (Lv.loud rfl ?_)
            ·
             refine Ll.slice (xs := [.tmp 101]) (vs := [i6_ ((i : Int))]) Base.elem25 rfl rfl rfl rfl rfl rfl (by decide) rfl fun p102_1 hp102_1 => ?_
             refine Ll.nil (Lv.joint (fun _ h => h.tail.tail.tail) ?_)
             exact Lv.to (H17__3 ⟨p100, cap100, cur100, p102_1, p105⟩ ⟨by simpa using hcp100, hlp100, by simpa using (by simpa using htp100)⟩) (Sub.sel [3, 4, 5, 6, 7, 8, 9, 10, 11, 12, 96, 97, 100, 102, 104, 105, 106, 108, 112] rfl) (fun _ h => Own.pickT (hs := [_, _, _]) (hs' := [_, _, _]) h [1, 0, 2] rfl (by decide))
            ·
             refine Ll.slice (xs := [.tmp 108]) (vs := [i6_ ((j : Int))]) Base.elem25 rfl rfl rfl rfl rfl rfl (by decide) rfl fun p109_5 hp109_5 => ?_
             refine Ll.nil (Lv.joint (fun _ h => h.tail.tail.tail) ?_)
             exact Lv.to (H17__5 ⟨p100, cap100, cur100, p105, p109_5⟩ ⟨by simpa using hcp100, hlp100, by simpa using (by simpa using htp100)⟩) (Sub.sel [3, 4, 5, 6, 7, 8, 9, 10, 11, 12, 96, 97, 100, 101, 104, 105, 106, 109, 112] rfl) (fun _ h => Own.pickT (hs := [_, _, _]) (hs' := [_, _, _]) h [1, 2, 0] rfl (by decide))
           refine Lv.share (σ := Nat × Nat × Array Value × Nat) lawFnSecondWins_o17_10x (fun ⟨p100, cap100, cur100, p109⟩ => (cur100.size = cap100 * 1 ∧ (xs21).length ≤ cap100 ∧ cur100.toList.take (xs21).length = ints xs21)) (fun ⟨p100, cap100, cur100, p109⟩ => [(3, pt_ p3), (4, v21), (5, pt_ p5), (6, u21), (7, i6_ r21), (8, bo_ (secB a21 xs21 b21 ys21 r21)), (9, bo_ (allW (secF a21 xs21 b21 ys21 r21) i b21.n.toNat)), (10, i6_ ((i : Int))), (11, bo_ (someW (secF a21 xs21 b21 ys21 r21) i j)), (12, i6_ ((j : Int))), (96, bo_ false), (97, vS a21), (100, sl_ p100 (((xs21).length)) cap100), (101, i6_ ((i : Int))), (104, vS b21), (106, u21), (109, sl_ p109 1 1), (112, i6_ (r21 - (1 : Int)))]) (fun ⟨p100, cap100, cur100, p109⟩ => Own w.heap.size w (bk_ p100 cur100 3 :: bk_ p109 #[i6_ ((j : Int))] 3 :: bk_ p5 #[i6_ b21.n, str b21.set, str b21.rel] 24 :: bk_ p3 #[i6_ a21.n, str a21.set, str a21.rel] 24 :: (new21 ++ ([])))) ?_ fun H17__9 => ?_
           ·
            rintro ⟨p100, cap100, cur100, p109⟩ ⟨hcp100, hlp100, htp100⟩
            dsimp only
            refine Lv.alt rfl ?_ (Lv.loud rfl ?_)
            ·
             refine Ll.slice (xs := [.tmp 101]) (vs := [i6_ ((i : Int))]) Base.elem25 rfl rfl rfl rfl rfl rfl (by decide) rfl fun p102_2 hp102_2 => ?_
             refine Ll.nil (Lv.joint (fun _ h => h.tail.tail.tail) ?_)
             exact Lv.to (H17__4 ⟨p100, cap100, cur100, p102_2, p109⟩ ⟨by simpa using hcp100, hlp100, by simpa using (by simpa using htp100)⟩) (Sub.sel [3, 4, 5, 6, 7, 8, 9, 10, 11, 12, 96, 97, 100, 102, 104, 106, 109, 112] rfl) (fun _ h => Own.pickT (hs := [_, _, _]) (hs' := [_, _, _]) h [1, 0, 2] rfl (by decide))
            ·
             refine Ll.slice (xs := []) (vs := []) Base.elem25 rfl rfl rfl rfl rfl rfl (by decide) rfl fun p105_4 hp105_4 => ?_
             refine Ll.nil (Lv.joint (fun _ h => h.tail.tail.tail) ?_)
             exact Lv.to (H17__5 ⟨p100, cap100, cur100, p105_4, p109⟩ ⟨by simpa using hcp100, hlp100, by simpa using (by simpa using htp100)⟩) (Sub.sel [3, 4, 5, 6, 7, 8, 9, 10, 11, 12, 96, 97, 100, 101, 104, 105, 106, 109, 112] rfl) (fun _ h => Own.pickT (hs := [_, _, _]) (hs' := [_, _, _]) h [1, 0, 2] rfl (by decide))
           refine Lv.share (σ := Nat × Nat × Nat) lawFnSecondWins_o17_17x (fun ⟨p98, p102, p105⟩ => True) (fun ⟨p98, p102, p105⟩ => [(3, pt_ p3), (4, v21), (5, pt_ p5), (6, u21), (7, i6_ r21), (8, bo_ (secB a21 xs21 b21 ys21 r21)), (9, bo_ (allW (secF a21 xs21 b21 ys21 r21) i b21.n.toNat)), (10, i6_ ((i : Int))), (11, bo_ (someW (secF a21 xs21 b21 ys21 r21) i j)), (12, i6_ ((j : Int))), (96, bo_ false), (97, vS a21), (98, sl_ p98 0 0), (99, v21), (102, sl_ p102 1 1), (104, vS b21), (105, sl_ p105 0 0), (106, u21), (108, i6_ ((j : Int))), (112, i6_ (r21 - (1 : Int)))]) (fun ⟨p98, p102, p105⟩ => Own w.heap.size w (bk_ p98 #[] 3 :: bk_ p102 #[i6_ ((i : Int))] 3 :: bk_ p105 #[] 3 :: bk_ p5 #[i6_ b21.n, str b21.set, str b21.rel] 24 :: bk_ p3 #[i6_ a21.n, str a21.set, str a21.rel] 24 :: (new21 ++ ([])))) ?_ fun H17__10 => ?_
           ·
            rintro ⟨p98, p102, p105⟩ -
            dsimp only
            refine Lv.alt rfl ?_ (Lv.loud rfl ?_)
            ·
             refine Ll.appendInts (xs := []) (ys := xs21) Base.elem25 0 rfl rfl rfl rfl rfl rfl rfl rfl (by decide) rfl (fun w1 hw1 => (hIv21 _ (Own.dropR (Own.drop (f := [_, _, _, _, _]) hw1)))) ((xs21).length) (by first | (simp; done) | (simp; omega)) (by first | (simp; done) | (simp; omega) | omega) fun p100_1 cap100_1 cur100_1 hp100_1 hcp100_1 hlp100_1 htp100_1 => ?_
             show Ll _ _ (Own _ _ (_ :: _ :: _ :: _ :: _ :: (new21 ++ ([])))) _ _ ((100, sl_ p100_1 (((xs21).length)) cap100_1) :: _) _ _ _
             refine Ll.nil (Lv.joint (fun _ h => h.tail.tail.tail) ?_)
             exact Lv.to (H17__3 ⟨p100_1, cap100_1, cur100_1, p102, p105⟩ ⟨by simpa using hcp100_1, hlp100_1, by simpa using (by simpa using htp100_1)⟩) (Sub.sel [3, 4, 5, 6, 7, 8, 9, 10, 11, 12, 96, 97, 100, 102, 104, 105, 106, 108, 112] rfl) (fun _ h => h)
            ·
             refine Ll.slice (xs := [.tmp 108]) (vs := [i6_ ((j : Int))]) Base.elem25 rfl rfl rfl rfl rfl rfl (by decide) rfl fun p109_6 hp109_6 => ?_
             refine Ll.nil (Lv.joint (fun _ h => h.tail.tail.tail.tail) ?_)
             exact Lv.to (H17__6 ⟨p98, p102, p105, p109_6⟩ trivial) (Sub.sel [3, 4, 5, 6, 7, 8, 9, 10, 11, 12, 96, 97, 98, 99, 102, 104, 105, 106, 109, 112] rfl) (fun _ h => Own.pickT (hs := [_, _, _, _]) (hs' := [_, _, _, _]) h [1, 2, 3, 0] rfl (by decide))
           refine Lv.share (σ := Nat × Nat × Nat) lawFnSecondWins_o17_8x (fun ⟨p98, p102, p109⟩ => True) (fun ⟨p98, p102, p109⟩ => [(3, pt_ p3), (4, v21), (5, pt_ p5), (6, u21), (7, i6_ r21), (8, bo_ (secB a21 xs21 b21 ys21 r21)), (9, bo_ (allW (secF a21 xs21 b21 ys21 r21) i b21.n.toNat)), (10, i6_ ((i : Int))), (11, bo_ (someW (secF a21 xs21 b21 ys21 r21) i j)), (12, i6_ ((j : Int))), (96, bo_ false), (97, vS a21), (98, sl_ p98 0 0), (99, v21), (102, sl_ p102 1 1), (104, vS b21), (106, u21), (109, sl_ p109 1 1), (112, i6_ (r21 - (1 : Int)))]) (fun ⟨p98, p102, p109⟩ => Own w.heap.size w (bk_ p98 #[] 3 :: bk_ p102 #[i6_ ((i : Int))] 3 :: bk_ p109 #[i6_ ((j : Int))] 3 :: bk_ p5 #[i6_ b21.n, str b21.set, str b21.rel] 24 :: bk_ p3 #[i6_ a21.n, str a21.set, str a21.rel] 24 :: (new21 ++ ([])))) ?_ fun H17__11 => ?_
           ·
            rintro ⟨p98, p102, p109⟩ -
            dsimp only
            refine Lv.alt rfl ?_ (Lv.loud rfl ?_)
            ·
             refine Ll.appendInts (xs := []) (ys := xs21) Base.elem25 0 rfl rfl rfl rfl rfl rfl rfl rfl (by decide) rfl (fun w1 hw1 => (hIv21 _ (Own.dropR (Own.drop (f := [_, _, _, _, _]) hw1)))) ((xs21).length) (by first | (simp; done) | (simp; omega)) (by first | (simp; done) | (simp; omega) | omega) fun p100_2 cap100_2 cur100_2 hp100_2 hcp100_2 hlp100_2 htp100_2 => ?_
             show Ll _ _ (Own _ _ (_ :: _ :: _ :: _ :: _ :: (new21 ++ ([])))) _ _ ((100, sl_ p100_2 (((xs21).length)) cap100_2) :: _) _ _ _
             refine Ll.nil (Lv.joint (fun _ h => h.tail.tail.tail) ?_)
             exact Lv.to (H17__4 ⟨p100_2, cap100_2, cur100_2, p102, p109⟩ ⟨by simpa using hcp100_2, hlp100_2, by simpa using (by simpa using htp100_2)⟩) (Sub.sel [3, 4, 5, 6, 7, 8, 9, 10, 11, 12, 96, 97, 100, 102, 104, 106, 109, 112] rfl) (fun _ h => h)
            ·
             refine Ll.slice (xs := []) (vs := []) Base.elem25 rfl rfl rfl rfl rfl rfl (by decide) rfl fun p105_5 hp105_5 => ?_
             refine Ll.nil (Lv.joint (fun _ h => h.tail.tail.tail.tail) ?_)
             exact Lv.to (H17__6 ⟨p98, p102, p105_5, p109⟩ trivial) (Sub.sel [3, 4, 5, 6, 7, 8, 9, 10, 11, 12, 96, 97, 98, 99, 102, 104, 105, 106, 109, 112] rfl) (fun _ h => Own.pickT (hs := [_, _, _, _]) (hs' := [_, _, _, _]) h [1, 2, 0, 3] rfl (by decide))
           refine Lv.share (σ := Nat × Nat × Nat) lawFnSecondWins_o17_3x (fun ⟨p98, p105, p109⟩ => True) (fun ⟨p98, p105, p109⟩ => [(3, pt_ p3), (4, v21), (5, pt_ p5), (6, u21), (7, i6_ r21), (8, bo_ (secB a21 xs21 b21 ys21 r21)), (9, bo_ (allW (secF a21 xs21 b21 ys21 r21) i b21.n.toNat)), (10, i6_ ((i : Int))), (11, bo_ (someW (secF a21 xs21 b21 ys21 r21) i j)), (12, i6_ ((j : Int))), (96, bo_ false), (97, vS a21), (98, sl_ p98 0 0), (99, v21), (101, i6_ ((i : Int))), (104, vS b21), (105, sl_ p105 0 0), (106, u21), (109, sl_ p109 1 1), (112, i6_ (r21 - (1 : Int)))]) (fun ⟨p98, p105, p109⟩ => Own w.heap.size w (bk_ p98 #[] 3 :: bk_ p105 #[] 3 :: bk_ p109 #[i6_ ((j : Int))] 3 :: bk_ p5 #[i6_ b21.n, str b21.set, str b21.rel] 24 :: bk_ p3 #[i6_ a21.n, str a21.set, str a21.rel] 24 :: (new21 ++ ([])))) ?_ fun H17__12 => ?_
           ·
            rintro ⟨p98, p105, p109⟩ -
            dsimp only
            refine Lv.alt rfl ?_ (Lv.loud rfl ?_)
            ·
             refine Ll.appendInts (xs := []) (ys := xs21) Base.elem25 0 rfl rfl rfl rfl rfl rfl rfl rfl (by decide) rfl (fun w1 hw1 => (hIv21 _ (Own.dropR (Own.drop (f := [_, _, _, _, _]) hw1)))) ((xs21).length) (by first | (simp; done) | (simp; omega)) (by first | (simp; done) | (simp; omega) | omega) fun p100_3 cap100_3 cur100_3 hp100_3 hcp100_3 hlp100_3 htp100_3 => ?_
             show Ll _ _ (Own _ _ (_ :: _ :: _ :: _ :: _ :: (new21 ++ ([])))) _ _ ((100, sl_ p100_3 (((xs21).length)) cap100_3) :: _) _ _ _
             refine Ll.nil (Lv.joint (fun _ h => h.tail.tail.tail) ?_)
             exact Lv.to (H17__5 ⟨p100_3, cap100_3, cur100_3, p105, p109⟩ ⟨by simpa using hcp100_3, hlp100_3, by simpa using (by simpa using htp100_3)⟩) (Sub.sel [3, 4, 5, 6, 7, 8, 9, 10, 11, 12, 96, 97, 100, 101, 104, 105, 106, 109, 112] rfl) (fun _ h => h)
            ·
             refine Ll.slice (xs := [.tmp 101]) (vs := [i6_ ((i : Int))]) Base.elem25 rfl rfl rfl rfl rfl rfl (by decide) rfl fun p102_3 hp102_3 => ?_
             refine Ll.nil (Lv.joint (fun _ h => h.tail.tail.tail.tail) ?_)
             exact Lv.to (H17__6 ⟨p98, p102_3, p105, p109⟩ trivial) (Sub.sel [3, 4, 5, 6, 7, 8, 9, 10, 11, 12, 96, 97, 98, 99, 102, 104, 105, 106, 109, 112] rfl) (fun _ h => Own.pickT (hs := [_, _, _, _]) (hs' := [_, _, _, _]) h [1, 0, 2, 3] rfl (by decide))
           refine Lv.share (σ := Nat × Nat × Nat) lawFnSecondWins_o17x (fun ⟨p102, p105, p109⟩ => True) (fun ⟨p102, p105, p109⟩ => [(3, pt_ p3), (4, v21), (5, pt_ p5), (6, u21), (7, i6_ r21), (8, bo_ (secB a21 xs21 b21 ys21 r21)), (9, bo_ (allW (secF a21 xs21 b21 ys21 r21) i b21.n.toNat)), (10, i6_ ((i : Int))), (11, bo_ (someW (secF a21 xs21 b21 ys21 r21) i j)), (12, i6_ ((j : Int))), (96, bo_ false), (97, vS a21), (99, v21), (102, sl_ p102 1 1), (104, vS b21), (105, sl_ p105 0 0), (106, u21), (109, sl_ p109 1 1), (112, i6_ (r21 - (1 : Int)))]) (fun ⟨p102, p105, p109⟩ => Own w.heap.size w (bk_ p102 #[i6_ ((i : Int))] 3 :: bk_ p105 #[] 3 :: bk_ p109 #[i6_ ((j : Int))] 3 :: bk_ p5 #[i6_ b21.n, str b21.set, str b21.rel] 24 :: bk_ p3 #[i6_ a21.n, str a21.set, str a21.rel] 24 :: (new21 ++ ([])))) ?_ fun H17__13 => ?_
           ·
            rintro ⟨p102, p105, p109⟩ -
            dsimp only
            refine Lv.loud rfl ?_
            refine Ll.slice (xs := []) (vs := []) Base.elem25 rfl rfl rfl rfl rfl rfl (by decide) rfl fun p98 hp98 => ?_
            refine Ll.nil (Lv.joint (fun _ h => h.tail.tail.tail.tail) ?_)
            refine Lv.loud rfl ?_
            refine Ll.appendInts (xs := []) (ys := xs21) Base.elem25 0 rfl rfl rfl rfl rfl rfl rfl rfl (by decide) rfl (fun w1 hw1 => (hIv21 _ (Own.dropR (Own.drop (f := [_, _, _, _, _, _]) hw1)))) ((xs21).length) (by first | (simp; done) | (simp; omega)) (by first | (simp; done) | (simp; omega) | omega) fun p100_4 cap100_4 cur100_4 hp100_4 hcp100_4 hlp100_4 htp100_4 => ?_
            show Ll _ _ (Own _ _ (_ :: _ :: _ :: _ :: _ :: _ :: (new21 ++ ([])))) _ _ ((100, sl_ p100_4 (((xs21).length)) cap100_4) :: _) _ _ _
            refine Ll.nil (Lv.joint (fun _ h => h.tail.tail.tail.tail) ?_)
            refine Lv.loud rfl ?_
            refine Ll.appendInts (xs := xs21) (ys := [(i : Int)]) Base.elem25 0 rfl rfl rfl rfl rfl rfl rfl hcp100_4 hlp100_4 (by simpa using htp100_4) (fun w1 hw1 => (Own.row hw1 (i := 1) rfl (n := 1) (cap := 1) (vs := ints [(i : Int)]) rfl rfl (by decide))) ((xs21 ++ ([(i : Int)])).length) (by first | (simp; done) | (simp; omega)) (by first | (simp; done) | (simp; omega) | omega) fun p103_6 cap103_6 cur103_6 hp103_6 hcp103_6 hlp103_6 htp103_6 => ?_
            show Ll _ _ (Own _ _ (_ :: _ :: _ :: _ :: _ :: _ :: (new21 ++ ([])))) _ _ ((103, sl_ p103_6 (((xs21 ++ ([(i : Int)])).length)) cap103_6) :: _) _ _ _
            refine Ll.nil (Lv.joint (fun _ h => h.tail.tail.tail.tail) ?_)
            refine Lv.loud rfl ?_
            refine Ll.appendInts (xs := []) (ys := ys21) Base.elem25 2 rfl rfl rfl rfl rfl rfl rfl rfl (by decide) rfl (fun w1 hw1 => (hIu21 _ (Own.dropR (Own.drop (f := [_, _, _, _, _, _]) hw1)))) ((ys21).length) (by first | (simp; done) | (simp; omega)) (by first | (simp; done) | (simp; omega) | omega) fun p107_6 cap107_6 cur107_6 hp107_6 hcp107_6 hlp107_6 htp107_6 => ?_
            show Ll _ _ (Own _ _ (_ :: _ :: _ :: _ :: _ :: _ :: (new21 ++ ([])))) _ _ ((107, sl_ p107_6 (((ys21).length)) cap107_6) :: _) _ _ _
            refine Ll.nil (Lv.joint (fun _ h => h.tail.tail.tail.tail) ?_)
            refine Lv.loud rfl ?_
            refine Ll.appendInts (xs := ys21) (ys := [(j : Int)]) Base.elem25 2 rfl rfl rfl rfl rfl rfl rfl hcp107_6 hlp107_6 (by simpa using htp107_6) (fun w1 hw1 => (Own.row hw1 (i := 3) rfl (n := 1) (cap := 1) (vs := ints [(j : Int)]) rfl rfl (by decide))) ((ys21 ++ ([(j : Int)])).length) (by first | (simp; done) | (simp; omega)) (by first | (simp; done) | (simp; omega) | omega) fun p110_6 cap110_6 cur110_6 hp110_6 hcp110_6 hlp110_6 htp110_6 => ?_
            show Ll _ _ (Own _ _ (_ :: _ :: _ :: _ :: _ :: _ :: (new21 ++ ([])))) _ _ ((110, sl_ p110_6 (((ys21 ++ ([(j : Int)])).length)) cap110_6) :: _) _ _ _
            refine Ll.nil (Lv.joint (fun _ h => h.tail.tail.tail.tail) ?_)
            refine Lv.loud rfl ?_
            refine Ll.op (v := bo_ (secB a21 (xs21 ++ ([(i : Int)])) b21 (ys21 ++ ([(j : Int)])) (r21 - (1 : Int)))) rfl rfl rfl (OpQ.call rfl Tryd.call26 rfl Own.stable (fun w1 hw1 => iWins_ok a21 b21 (xs21 ++ ([(i : Int)])) (ys21 ++ ([(j : Int)])) (sl_ p103_6 (((xs21 ++ ([(i : Int)])).length)) cap103_6) (sl_ p110_6 (((ys21 ++ ([(j : Int)])).length)) cap110_6) w1 hsa21 hsb21 (Own.row hw1 (i := 0) rfl (by simpa using htp103_6) (by simp) hlp103_6) (Own.row hw1 (i := 2) rfl (by simpa using htp110_6) (by simp) hlp110_6) (by first | (simp; done) | (simp; omega) | omega) (by first | (simp; done) | (simp; omega) | omega) (r21 - (1 : Int)))) ?_
            refine Ll.nil (Lv.joint (fun _ h => h.tail.tail.tail.tail) ?_)
            refine Lv.run 2 rfl (fun _ h => h.tail.tail.tail.tail) ?_
            refine Lv.nil ?_
            refine Kt.sel [3, 4, 5, 6, 7, 8, 9, 10, 11, 12] [_, _, _, _, _, _, _, _, _, _] rfl ?_
            refine Wk.regionQ ?_
            refine Lq.run 1 rfl ?_
            refine Lq.op rfl rfl rfl (OpQ.add rfl rfl rfl (by omega) (by omega)) ?_
            refine Lq.run 1 rfl ?_
            refine Lq.nil ?_
            refine Kt.again (j + 1) (by omega) (by omega) (Sub.cons rfl (Sub.cons rfl (Sub.cons rfl (Sub.cons rfl (Sub.cons rfl (Sub.cons rfl (Sub.cons rfl (Sub.cons rfl (Sub.cons (by rw [someW_succ, hg96]; rfl) (Sub.sel [12] rfl)))))))))) (fun _ h => h.tail.tail.tail.tail)
           refine Lv.share (σ := Nat × Nat) lawFnSecondWins_o17_24x (fun ⟨p98, p102⟩ => True) (fun ⟨p98, p102⟩ => [(3, pt_ p3), (4, v21), (5, pt_ p5), (6, u21), (7, i6_ r21), (8, bo_ (secB a21 xs21 b21 ys21 r21)), (9, bo_ (allW (secF a21 xs21 b21 ys21 r21) i b21.n.toNat)), (10, i6_ ((i : Int))), (11, bo_ (someW (secF a21 xs21 b21 ys21 r21) i j)), (12, i6_ ((j : Int))), (96, bo_ false), (97, vS a21), (98, sl_ p98 0 0), (99, v21), (102, sl_ p102 1 1), (104, vS b21), (106, u21), (108, i6_ ((j : Int))), (112, i6_ (r21 - (1 : Int)))]) (fun ⟨p98, p102⟩ => Own w.heap.size w (bk_ p98 #[] 3 :: bk_ p102 #[i6_ ((i : Int))] 3 :: bk_ p5 #[i6_ b21.n, str b21.set, str b21.rel] 24 :: bk_ p3 #[i6_ a21.n, str a21.set, str a21.rel] 24 :: (new21 ++ ([])))) ?_ fun H17__14 => ?_
           ·
            rintro ⟨p98, p102⟩ -
            dsimp only
            refine Lv.alt rfl ?_ (Lv.alt rfl ?_ (Lv.loud rfl ?_))
            ·
             refine Ll.appendInts (xs := []) (ys := xs21) Base.elem25 0 rfl rfl rfl rfl rfl rfl rfl rfl (by decide) rfl (fun w1 hw1 => (hIv21 _ (Own.dropR (Own.drop (f := [_, _, _, _]) hw1)))) ((xs21).length) (by first | (simp; done) | (simp; omega)) (by first | (simp; done) | (simp; omega) | omega) fun p100_5 cap100_5 cur100_5 hp100_5 hcp100_5 hlp100_5 htp100_5 => ?_
             show Ll _ _ (Own _ _ (_ :: _ :: _ :: _ :: (new21 ++ ([])))) _ _ ((100, sl_ p100_5 (((xs21).length)) cap100_5) :: _) _ _ _
             refine Ll.nil (Lv.joint (fun _ h => h.tail.tail) ?_)
             exact Lv.to (H17__7 ⟨p100_5, cap100_5, cur100_5, p102⟩ ⟨by simpa using hcp100_5, hlp100_5, by simpa using (by simpa using htp100_5)⟩) (Sub.sel [3, 4, 5, 6, 7, 8, 9, 10, 11, 12, 96, 97, 100, 102, 104, 106, 108, 112] rfl) (fun _ h => h)
            ·
             refine Ll.slice (xs := []) (vs := []) Base.elem25 rfl rfl rfl rfl rfl rfl (by decide) rfl fun p105_6 hp105_6 => ?_
             refine Ll.nil (Lv.joint (fun _ h => h.tail.tail.tail) ?_)
             exact Lv.to (H17__10 ⟨p98, p102, p105_6⟩ trivial) (Sub.sel [3, 4, 5, 6, 7, 8, 9, 10, 11, 12, 96, 97, 98, 99, 102, 104, 105, 106, 108, 112] rfl) (fun _ h => Own.pickT (hs := [_, _, _]) (hs' := [_, _, _]) h [1, 2, 0] rfl (by decide))
            ·
             refine Ll.slice (xs := [.tmp 108]) (vs := [i6_ ((j : Int))]) Base.elem25 rfl rfl rfl rfl rfl rfl (by decide) rfl fun p109_7 hp109_7 => ?_
             refine Ll.nil (Lv.joint (fun _ h => h.tail.tail.tail) ?_)
             exact Lv.to (H17__11 ⟨p98, p102, p109_7⟩ trivial) (Sub.sel [3, 4, 5, 6, 7, 8, 9, 10, 11, 12, 96, 97, 98, 99, 102, 104, 106, 109, 112] rfl) (fun _ h => Own.pickT (hs := [_, _, _]) (hs' := [_, _, _]) h [1, 2, 0] rfl (by decide))
           refine Lv.share (σ := Nat × Nat) lawFnSecondWins_o17_20x (fun ⟨p98, p105⟩ => True) (fun ⟨p98, p105⟩ => [(3, pt_ p3), (4, v21), (5, pt_ p5), (6, u21), (7, i6_ r21), (8, bo_ (secB a21 xs21 b21 ys21 r21)), (9, bo_ (allW (secF a21 xs21 b21 ys21 r21) i b21.n.toNat)), (10, i6_ ((i : Int))), (11, bo_ (someW (secF a21 xs21 b21 ys21 r21) i j)), (12, i6_ ((j : Int))), (96, bo_ false), (97, vS a21), (98, sl_ p98 0 0), (99, v21), (101, i6_ ((i : Int))), (104, vS b21), (105, sl_ p105 0 0), (106, u21), (108, i6_ ((j : Int))), (112, i6_ (r21 - (1 : Int)))]) (fun ⟨p98, p105⟩ => Own w.heap.size w (bk_ p98 #[] 3 :: bk_ p105 #[] 3 :: bk_ p5 #[i6_ b21.n, str b21.set, str b21.rel] 24 :: bk_ p3 #[i6_ a21.n, str a21.set, str a21.rel] 24 :: (new21 ++ ([])))) ?_ fun H17__15 => ?_
           ·
            rintro ⟨p98, p105⟩ -
            dsimp only
            refine Lv.alt rfl ?_ (Lv.alt rfl ?_ (Lv.loud rfl ?_))
            ·
             refine Ll.appendInts (xs := []) (ys := xs21) Base.elem25 0 rfl rfl rfl rfl rfl rfl rfl rfl (by decide) rfl (fun w1 hw1 => (hIv21 _ (Own.dropR (Own.drop (f := [_, _, _, _]) hw1)))) ((xs21).length) (by first | (simp; done) | (simp; omega)) (by first | (simp; done) | (simp; omega) | omega) fun p100_6 cap100_6 cur100_6 hp100_6 hcp100_6 hlp100_6 htp100_6 => ?_
             show Ll _ _ (Own _ _ (_ :: _ :: _ :: _ :: (new21 ++ ([])))) _ _ ((100, sl_ p100_6 (((xs21).length)) cap100_6) :: _) _ _ _
             refine Ll.nil (Lv.joint (fun _ h => h.tail.tail) ?_)
             exact Lv.to (H17__8 ⟨p100_6, cap100_6, cur100_6, p105⟩ ⟨by simpa using hcp100_6, hlp100_6, by simpa using (by simpa using htp100_6)⟩) (Sub.sel [3, 4, 5, 6, 7, 8, 9, 10, 11, 12, 96, 97, 100, 101, 104, 105, 106, 108, 112] rfl) (fun _ h => h)
            ·
             refine Ll.slice (xs := [.tmp 101]) (vs := [i6_ ((i : Int))]) Base.elem25 rfl rfl rfl rfl rfl rfl (by decide) rfl fun p102_4 hp102_4 => ?_
             refine Ll.nil (Lv.joint (fun _ h => h.tail.tail.tail) ?_)
             exact Lv.to (H17__10 ⟨p98, p102_4, p105⟩ trivial) (Sub.sel [3, 4, 5, 6, 7, 8, 9, 10, 11, 12, 96, 97, 98, 99, 102, 104, 105, 106, 108, 112] rfl) (fun _ h => Own.pickT (hs := [_, _, _]) (hs' := [_, _, _]) h [1, 0, 2] rfl (by decide))
            ·
             refine Ll.slice (xs := [.tmp 108]) (vs := [i6_ ((j : Int))]) Base.elem25 rfl rfl rfl rfl rfl rfl (by decide) rfl fun p109_8 hp109_8 => ?_
             refine Ll.nil (Lv.joint (fun _ h => h.tail.tail.tail) ?_)
             exact Lv.to (H17__12 ⟨p98, p105, p109_8⟩ trivial) (Sub.sel [3, 4, 5, 6, 7, 8, 9, 10, 11, 12, 96, 97, 98, 99, 101, 104, 105, 106, 109, 112] rfl) (fun _ h => Own.pickT (hs := [_, _, _]) (hs' := [_, _, _]) h [1, 2, 0] rfl (by decide))
           refine Lv.share (σ := Nat × Nat) lawFnSecondWins_o17_11x (fun ⟨p98, p109⟩ => True) (fun ⟨p98, p109⟩ => [(3, pt_ p3), (4, v21), (5, pt_ p5), (6, u21), (7, i6_ r21), (8, bo_ (secB a21 xs21 b21 ys21 r21)), (9, bo_ (allW (secF a21 xs21 b21 ys21 r21) i b21.n.toNat)), (10, i6_ ((i : Int))), (11, bo_ (someW (secF a21 xs21 b21 ys21 r21) i j)), (12, i6_ ((j : Int))), (96, bo_ false), (97, vS a21), (98, sl_ p98 0 0), (99, v21), (101, i6_ ((i : Int))), (104, vS b21), (106, u21), (109, sl_ p109 1 1), (112, i6_ (r21 - (1 : Int)))]) (fun ⟨p98, p109⟩ => Own w.heap.size w (bk_ p98 #[] 3 :: bk_ p109 #[i6_ ((j : Int))] 3 :: bk_ p5 #[i6_ b21.n, str b21.set, str b21.rel] 24 :: bk_ p3 #[i6_ a21.n, str a21.set, str a21.rel] 24 :: (new21 ++ ([])))) ?_ fun H17__16 => ?_
           ·
            rintro ⟨p98, p109⟩ -
            dsimp only
            refine Lv.alt rfl ?_ (Lv.alt rfl ?_ (Lv.loud rfl ?_))
            ·
             refine Ll.appendInts (xs := []) (ys := xs21) Base.elem25 0 rfl rfl rfl rfl rfl rfl rfl rfl (by decide) rfl (fun w1 hw1 => (hIv21 _ (Own.dropR (Own.drop (f := [_, _, _, _]) hw1)))) ((xs21).length) (by first | (simp; done) | (simp; omega)) (by first | (simp; done) | (simp; omega) | omega) fun p100_7 cap100_7 cur100_7 hp100_7 hcp100_7 hlp100_7 htp100_7 => ?_
             show Ll _ _ (Own _ _ (_ :: _ :: _ :: _ :: (new21 ++ ([])))) _ _ ((100, sl_ p100_7 (((xs21).length)) cap100_7) :: _) _ _ _
             refine Ll.nil (Lv.joint (fun _ h => h.tail.tail) ?_)
             exact Lv.to (H17__9 ⟨p100_7, cap100_7, cur100_7, p109⟩ ⟨by simpa using hcp100_7, hlp100_7, by simpa using (by simpa using htp100_7)⟩) (Sub.sel [3, 4, 5, 6, 7, 8, 9, 10, 11, 12, 96, 97, 100, 101, 104, 106, 109, 112] rfl) (fun _ h => h)
            ·
             refine Ll.slice (xs := [.tmp 101]) (vs := [i6_ ((i : Int))]) Base.elem25 rfl rfl rfl rfl rfl rfl (by decide) rfl fun p102_5 hp102_5 => ?_
             refine Ll.nil (Lv.joint (fun _ h => h.tail.tail.tail) ?_)
             exact Lv.to (H17__11 ⟨p98, p102_5, p109⟩ trivial) (Sub.sel [3, 4, 5, 6, 7, 8, 9, 10, 11, 12, 96, 97, 98, 99, 102, 104, 106, 109, 112] rfl) (fun _ h => Own.pickT (hs := [_, _, _]) (hs' := [_, _, _]) h [1, 0, 2] rfl (by decide))
            ·
             refine Ll.slice (xs := []) (vs := []) Base.elem25 rfl rfl rfl rfl rfl rfl (by decide) rfl fun p105_7 hp105_7 => ?_
             refine Ll.nil (Lv.joint (fun _ h => h.tail.tail.tail) ?_)
             exact Lv.to (H17__12 ⟨p98, p105_7, p109⟩ trivial) (Sub.sel [3, 4, 5, 6, 7, 8, 9, 10, 11, 12, 96, 97, 98, 99, 101, 104, 105, 106, 109, 112] rfl) (fun _ h => Own.pickT (hs := [_, _, _]) (hs' := [_, _, _]) h [1, 0, 2] rfl (by decide))
           refine Lv.share (σ := Nat × Nat) lawFnSecondWins_o17_18x (fun ⟨p102, p105⟩ => True) (fun ⟨p102, p105⟩ => [(3, pt_ p3), (4, v21), (5, pt_ p5), (6, u21), (7, i6_ r21), (8, bo_ (secB a21 xs21 b21 ys21 r21)), (9, bo_ (allW (secF a21 xs21 b21 ys21 r21) i b21.n.toNat)), (10, i6_ ((i : Int))), (11, bo_ (someW (secF a21 xs21 b21 ys21 r21) i j)), (12, i6_ ((j : Int))), (96, bo_ false), (97, vS a21), (99, v21), (102, sl_ p102 1 1), (104, vS b21), (105, sl_ p105 0 0), (106, u21), (108, i6_ ((j : Int))), (112, i6_ (r21 - (1 : Int)))]) (fun ⟨p102, p105⟩ => Own w.heap.size w (bk_ p102 #[i6_ ((i : Int))] 3 :: bk_ p105 #[] 3 :: bk_ p5 #[i6_ b21.n, str b21.set, str b21.rel] 24 :: bk_ p3 #[i6_ a21.n, str a21.set, str a21.rel] 24 :: (new21 ++ ([])))) ?_ fun H17__17 => ?_
           ·
            rintro ⟨p102, p105⟩ -
            dsimp only
            refine Lv.alt rfl ?_ (Lv.loud rfl ?_)
            ·
             refine Ll.slice (xs := []) (vs := []) Base.elem25 rfl rfl rfl rfl rfl rfl (by decide) rfl fun p98_1 hp98_1 => ?_
             refine Ll.nil (Lv.joint (fun _ h => h.tail.tail.tail) ?_)
             exact Lv.to (H17__10 ⟨p98_1, p102, p105⟩ trivial) (Sub.sel [3, 4, 5, 6, 7, 8, 9, 10, 11, 12, 96, 97, 98, 99, 102, 104, 105, 106, 108, 112] rfl) (fun _ h => h)
            ·
             refine Ll.slice (xs := [.tmp 108]) (vs := [i6_ ((j : Int))]) Base.elem25 rfl rfl rfl rfl rfl rfl (by decide) rfl fun p109_9 hp109_9 => ?_
             refine Ll.nil (Lv.joint (fun _ h => h.tail.tail.tail) ?_)
             exact Lv.to (H17__13 ⟨p102, p105, p109_9⟩ trivial) (Sub.sel [3, 4, 5, 6, 7, 8, 9, 10, 11, 12, 96, 97, 99, 102, 104, 105, 106, 109, 112] rfl) (fun _ h => Own.pickT (hs := [_, _, _]) (hs' := [_, _, _]) h [1, 2, 0] rfl (by decide))
           refine Lv.share (σ := Nat × Nat) lawFnSecondWins_o17_9x (fun ⟨p102, p109⟩ => True) (fun ⟨p102, p109⟩ => [(3, pt_ p3), (4, v21), (5, pt_ p5), (6, u21), (7, i6_ r21), (8, bo_ (secB a21 xs21 b21 ys21 r21)), (9, bo_ (allW (secF a21 xs21 b21 ys21 r21) i b21.n.toNat)), (10, i6_ ((i : Int))), (11, bo_ (someW (secF a21 xs21 b21 ys21 r21) i j)), (12, i6_ ((j : Int))), (96, bo_ false), (97, vS a21), (99, v21), (102, sl_ p102 1 1), (104, vS b21), (106, u21), (109, sl_ p109 1 1), (112, i6_ (r21 - (1 : Int)))]) (fun ⟨p102, p109⟩ => Own w.heap.size w (bk_ p102 #[i6_ ((i : Int))] 3 :: bk_ p109 #[i6_ ((j : Int))] 3 :: bk_ p5 #[i6_ b21.n, str b21.set, str b21.rel] 24 :: bk_ p3 #[i6_ a21.n, str a21.set, str a21.rel] 24 :: (new21 ++ ([])))) ?_ fun H17__18 => ?_
           ·
            rintro ⟨p102, p109⟩ -
            dsimp only
            refine Lv.alt rfl ?_ (Lv.loud rfl ?_)
            ·
             refine Ll.slice (xs := []) (vs := []) Base.elem25 rfl rfl rfl rfl rfl rfl (by decide) rfl fun p98_2 hp98_2 => ?_
             refine Ll.nil (Lv.joint (fun _ h => h.tail.tail.tail) ?_)
             exact Lv.to (H17__11 ⟨p98_2, p102, p109⟩ trivial) (Sub.sel [3, 4, 5, 6, 7, 8, 9, 10, 11, 12, 96, 97, 98, 99, 102, 104, 106, 109, 112] rfl) (fun _ h => h)
            ·
             refine Ll.slice (xs := []) (vs := []) Base.elem25 rfl rfl rfl rfl rfl rfl (by decide) rfl fun p105_8 hp105_8 => ?_
             refine Ll.nil (Lv.joint (fun _ h => h.tail.tail.tail) ?_)
             exact Lv.to (H17__13 ⟨p102, p105_8, p109⟩ trivial) (Sub.sel [3, 4, 5, 6, 7, 8, 9, 10, 11, 12, 96, 97, 99, 102, 104, 105, 106, 109, 112] rfl) (fun _ h => Own.pickT (hs := [_, _, _]) (hs' := [_, _, _]) h [1, 0, 2] rfl (by decide))
           refine Lv.share (σ := Nat × Nat) lawFnSecondWins_o17_4x (fun ⟨p105, p109⟩ => True) (fun ⟨p105, p109⟩ => [(3, pt_ p3), (4, v21), (5, pt_ p5), (6, u21), (7, i6_ r21), (8, bo_ (secB a21 xs21 b21 ys21 r21)), (9, bo_ (allW (secF a21 xs21 b21 ys21 r21) i b21.n.toNat)), (10, i6_ ((i : Int))), (11, bo_ (someW (secF a21 xs21 b21 ys21 r21) i j)), (12, i6_ ((j : Int))), (96, bo_ false), (97, vS a21), (99, v21), (101, i6_ ((i : Int))), (104, vS b21), (105, sl_ p105 0 0), (106, u21), (109, sl_ p109 1 1), (112, i6_ (r21 - (1 : Int)))]) (fun ⟨p105, p109⟩ => Own w.heap.size w (bk_ p105 #[] 3 :: bk_ p109 #[i6_ ((j : Int))] 3 :: bk_ p5 #[i6_ b21.n, str b21.set, str b21.rel] 24 :: bk_ p3 #[i6_ a21.n, str a21.set, str a21.rel] 24 :: (new21 ++ ([])))) ?_ fun H17__19 => ?_
           ·
            rintro ⟨p105, p109⟩ -
            dsimp only
            refine Lv.alt rfl ?_ (Lv.loud rfl ?_)
            ·
             refine Ll.slice (xs := []) (vs := []) Base.elem25 rfl rfl rfl rfl rfl rfl (by decide) rfl fun p98_3 hp98_3 => ?_
             refine Ll.nil (Lv.joint (fun _ h => h.tail.tail.tail) ?_)
             exact Lv.to (H17__12 ⟨p98_3, p105, p109⟩ trivial) (Sub.sel [3, 4, 5, 6, 7, 8, 9, 10, 11, 12, 96, 97, 98, 99, 101, 104, 105, 106, 109, 112] rfl) (fun _ h => h)
            ·
             refine Ll.slice (xs := [.tmp 101]) (vs := [i6_ ((i : Int))]) Base.elem25 rfl rfl rfl rfl rfl rfl (by decide) rfl fun p102_6 hp102_6 => ?_
             refine Ll.nil (Lv.joint (fun _ h => h.tail.tail.tail) ?_)
             exact Lv.to (H17__13 ⟨p102_6, p105, p109⟩ trivial) (Sub.sel [3, 4, 5, 6, 7, 8, 9, 10, 11, 12, 96, 97, 99, 102, 104, 105, 106, 109, 112] rfl) (fun _ h => h)
           refine Lv.take rfl rfl rfl rfl rfl (OpQ.loadBox (cs := #[i6_ a21.n, str a21.set, str a21.rel]) 1 rfl Tryd.isAgg24 rfl rfl Tryd.sizeOf24) (fun _ h => h) ?_
           refine Lv.run 2 rfl (fun _ h => h) ?_
           refine Lv.take rfl rfl rfl rfl rfl (OpQ.loadBox (cs := #[i6_ b21.n, str b21.set, str b21.rel]) 0 rfl Tryd.isAgg24 rfl rfl Tryd.sizeOf24) (fun _ h => h) ?_
           refine Lv.run 3 rfl (fun _ h => h) ?_
           refine Lv.take rfl rfl rfl rfl rfl (OpQ.sub rfl rfl rfl (by omega) (by omega)) (fun _ h => h) ?_
           refine Lv.alt rfl ?_ (Lv.alt rfl ?_ (Lv.alt rfl ?_ (Lv.loud rfl ?_)))
           ·
            refine Ll.slice (xs := []) (vs := []) Base.elem25 rfl rfl rfl rfl rfl rfl (by decide) rfl fun p98_4 hp98_4 => ?_
            refine Ll.nil (Lv.joint (fun _ h => h.tail) ?_)
            refine Lv.alt rfl ?_ (Lv.alt rfl ?_ (Lv.alt rfl ?_ (Lv.loud rfl ?_)))
            ·
             refine Ll.appendInts (xs := []) (ys := xs21) Base.elem25 0 rfl rfl rfl rfl rfl rfl rfl rfl (by decide) rfl (fun w1 hw1 => (hIv21 _ (Own.dropR (Own.drop (f := [_, _, _]) hw1)))) ((xs21).length) (by first | (simp; done) | (simp; omega)) (by first | (simp; done) | (simp; omega) | omega) fun p100_8 cap100_8 cur100_8 hp100_8 hcp100_8 hlp100_8 htp100_8 => ?_
             show Ll _ _ (Own _ _ (_ :: _ :: _ :: (new21 ++ ([])))) _ _ ((100, sl_ p100_8 (((xs21).length)) cap100_8) :: _) _ _ _
             refine Ll.nil (Lv.joint (fun _ h => h.tail) ?_)
             refine Lv.alt rfl ?_ (Lv.alt rfl ?_ (Lv.loud rfl ?_))
             ·
              refine Ll.slice (xs := [.tmp 101]) (vs := [i6_ ((i : Int))]) Base.elem25 rfl rfl rfl rfl rfl rfl (by decide) rfl fun p102_7 hp102_7 => ?_
              refine Ll.nil (Lv.joint (fun _ h => h.tail.tail) ?_)
              exact Lv.to (H17__7 ⟨p100_8, cap100_8, cur100_8, p102_7⟩ ⟨by simpa using hcp100_8, hlp100_8, by simpa using (by simpa using htp100_8)⟩) (Sub.sel [3, 4, 5, 6, 7, 8, 9, 10, 11, 12, 96, 97, 100, 102, 104, 106, 108, 112] rfl) (fun _ h => Own.pickT (hs := [_, _]) (hs' := [_, _]) h [1, 0] rfl (by decide))
             ·
              refine Ll.slice (xs := []) (vs := []) Base.elem25 rfl rfl rfl rfl rfl rfl (by decide) rfl fun p105_9 hp105_9 => ?_
              refine Ll.nil (Lv.joint (fun _ h => h.tail.tail) ?_)
              exact Lv.to (H17__8 ⟨p100_8, cap100_8, cur100_8, p105_9⟩ ⟨by simpa using hcp100_8, hlp100_8, by simpa using (by simpa using htp100_8)⟩) (Sub.sel [3, 4, 5, 6, 7, 8, 9, 10, 11, 12, 96, 97, 100, 101, 104, 105, 106, 108, 112] rfl) (fun _ h => Own.pickT (hs := [_, _]) (hs' := [_, _]) h [1, 0] rfl (by decide))
             ·
              refine Ll.slice (xs := [.tmp 108]) (vs := [i6_ ((j : Int))]) Base.elem25 rfl rfl rfl rfl rfl rfl (by decide) rfl fun p109_10 hp109_10 => ?_
              refine Ll.nil (Lv.joint (fun _ h => h.tail.tail) ?_)
              exact Lv.to (H17__9 ⟨p100_8, cap100_8, cur100_8, p109_10⟩ ⟨by simpa using hcp100_8, hlp100_8, by simpa using (by simpa using htp100_8)⟩) (Sub.sel [3, 4, 5, 6, 7, 8, 9, 10, 11, 12, 96, 97, 100, 101, 104, 106, 109, 112] rfl) (fun _ h => Own.pickT (hs := [_, _]) (hs' := [_, _]) h [1, 0] rfl (by decide))
            ·
             refine Ll.slice (xs := [.tmp 101]) (vs := [i6_ ((i : Int))]) Base.elem25 rfl rfl rfl rfl rfl rfl (by decide) rfl fun p102_8 hp102_8 => ?_
             refine Ll.nil (Lv.joint (fun _ h => h.tail.tail) ?_)
             exact Lv.to (H17__14 ⟨p98_4, p102_8⟩ trivial) (Sub.sel [3, 4, 5, 6, 7, 8, 9, 10, 11, 12, 96, 97, 98, 99, 102, 104, 106, 108, 112] rfl) (fun _ h => Own.pickT (hs := [_, _]) (hs' := [_, _]) h [1, 0] rfl (by decide))
            ·
             refine Ll.slice (xs := []) (vs := []) Base.elem25 rfl rfl rfl rfl rfl rfl (by decide) rfl fun p105_10 hp105_10 => ?_
             refine Ll.nil (Lv.joint (fun _ h => h.tail.tail) ?_)
             exact Lv.to (H17__15 ⟨p98_4, p105_10⟩ trivial) (Sub.sel [3, 4, 5, 6, 7, 8, 9, 10, 11, 12, 96, 97, 98, 99, 101, 104, 105, 106, 108, 112] rfl) (fun _ h => Own.pickT (hs := [_, _]) (hs' := [_, _]) h [1, 0] rfl (by decide))
            ·
             refine Ll.slice (xs := [.tmp 108]) (vs := [i6_ ((j : Int))]) Base.elem25 rfl rfl rfl rfl rfl rfl (by decide) rfl fun p109_11 hp109_11 => ?_
             refine Ll.nil (Lv.joint (fun _ h => h.tail.tail) ?_)
             exact Lv.to (H17__16 ⟨p98_4, p109_11⟩ trivial) (Sub.sel [3, 4, 5, 6, 7, 8, 9, 10, 11, 12, 96, 97, 98, 99, 101, 104, 106, 109, 112] rfl) (fun _ h => Own.pickT (hs := [_, _]) (hs' := [_, _]) h [1, 0] rfl (by decide))
           ·
            refine Ll.slice (xs := [.tmp 101]) (vs := [i6_ ((i : Int))]) Base.elem25 rfl rfl rfl rfl rfl rfl (by decide) rfl fun p102_9 hp102_9 => ?_
            refine Ll.nil (Lv.joint (fun _ h => h.tail) ?_)
            refine Lv.alt rfl ?_ (Lv.alt rfl ?_ (Lv.loud rfl ?_))
            ·
             refine Ll.slice (xs := []) (vs := []) Base.elem25 rfl rfl rfl rfl rfl rfl (by decide) rfl fun p98_5 hp98_5 => ?_
             refine Ll.nil (Lv.joint (fun _ h => h.tail.tail) ?_)
             exact Lv.to (H17__14 ⟨p98_5, p102_9⟩ trivial) (Sub.sel [3, 4, 5, 6, 7, 8, 9, 10, 11, 12, 96, 97, 98, 99, 102, 104, 106, 108, 112] rfl) (fun _ h => h)
            ·
             refine Ll.slice (xs := []) (vs := []) Base.elem25 rfl rfl rfl rfl rfl rfl (by decide) rfl fun p105_11 hp105_11 => ?_
             refine Ll.nil (Lv.joint (fun _ h => h.tail.tail) ?_)
             exact Lv.to (H17__17 ⟨p102_9, p105_11⟩ trivial) (Sub.sel [3, 4, 5, 6, 7, 8, 9, 10, 11, 12, 96, 97, 99, 102, 104, 105, 106, 108, 112] rfl) (fun _ h => Own.pickT (hs := [_, _]) (hs' := [_, _]) h [1, 0] rfl (by decide))
            ·
             refine Ll.slice (xs := [.tmp 108]) (vs := [i6_ ((j : Int))]) Base.elem25 rfl rfl rfl rfl rfl rfl (by decide) rfl fun p109_12 hp109_12 => ?_
             refine Ll.nil (Lv.joint (fun _ h => h.tail.tail) ?_)
             exact Lv.to (H17__18 ⟨p102_9, p109_12⟩ trivial) (Sub.sel [3, 4, 5, 6, 7, 8, 9, 10, 11, 12, 96, 97, 99, 102, 104, 106, 109, 112] rfl) (fun _ h => Own.pickT (hs := [_, _]) (hs' := [_, _]) h [1, 0] rfl (by decide))
           ·
            refine Ll.slice (xs := []) (vs := []) Base.elem25 rfl rfl rfl rfl rfl rfl (by decide) rfl fun p105_12 hp105_12 => ?_
            refine Ll.nil (Lv.joint (fun _ h => h.tail) ?_)
            refine Lv.alt rfl ?_ (Lv.alt rfl ?_ (Lv.loud rfl ?_))
            ·
             refine Ll.slice (xs := []) (vs := []) Base.elem25 rfl rfl rfl rfl rfl rfl (by decide) rfl fun p98_6 hp98_6 => ?_
             refine Ll.nil (Lv.joint (fun _ h => h.tail.tail) ?_)
             exact Lv.to (H17__15 ⟨p98_6, p105_12⟩ trivial) (Sub.sel [3, 4, 5, 6, 7, 8, 9, 10, 11, 12, 96, 97, 98, 99, 101, 104, 105, 106, 108, 112] rfl) (fun _ h => h)
            ·
             refine Ll.slice (xs := [.tmp 101]) (vs := [i6_ ((i : Int))]) Base.elem25 rfl rfl rfl rfl rfl rfl (by decide) rfl fun p102_10 hp102_10 => ?_
             refine Ll.nil (Lv.joint (fun _ h => h.tail.tail) ?_)
             exact Lv.to (H17__17 ⟨p102_10, p105_12⟩ trivial) (Sub.sel [3, 4, 5, 6, 7, 8, 9, 10, 11, 12, 96, 97, 99, 102, 104, 105, 106, 108, 112] rfl) (fun _ h => h)
            ·
             refine Ll.slice (xs := [.tmp 108]) (vs := [i6_ ((j : Int))]) Base.elem25 rfl rfl rfl rfl rfl rfl (by decide) rfl fun p109_13 hp109_13 => ?_
             refine Ll.nil (Lv.joint (fun _ h => h.tail.tail) ?_)
             exact Lv.to (H17__19 ⟨p105_12, p109_13⟩ trivial) (Sub.sel [3, 4, 5, 6, 7, 8, 9, 10, 11, 12, 96, 97, 99, 101, 104, 105, 106, 109, 112] rfl) (fun _ h => Own.pickT (hs := [_, _]) (hs' := [_, _]) h [1, 0] rfl (by decide))
           ·
            refine Ll.slice (xs := [.tmp 108]) (vs := [i6_ ((j : Int))]) Base.elem25 rfl rfl rfl rfl rfl rfl (by decide) rfl fun p109_14 hp109_14 => ?_
            refine Ll.nil (Lv.joint (fun _ h => h.tail) ?_)
            refine Lv.alt rfl ?_ (Lv.alt rfl ?_ (Lv.loud rfl ?_))
            ·
             refine Ll.slice (xs := []) (vs := []) Base.elem25 rfl rfl rfl rfl rfl rfl (by decide) rfl fun p98_7 hp98_7 => ?_
             refine Ll.nil (Lv.joint (fun _ h => h.tail.tail) ?_)
             exact Lv.to (H17__16 ⟨p98_7, p109_14⟩ trivial) (Sub.sel [3, 4, 5, 6, 7, 8, 9, 10, 11, 12, 96, 97, 98, 99, 101, 104, 106, 109, 112] rfl) (fun _ h => h)
            ·
             refine Ll.slice (xs := [.tmp 101]) (vs := [i6_ ((i : Int))]) Base.elem25 rfl rfl rfl rfl rfl rfl (by decide) rfl fun p102_11 hp102_11 => ?_
             refine Ll.nil (Lv.joint (fun _ h => h.tail.tail) ?_)
             exact Lv.to (H17__18 ⟨p102_11, p109_14⟩ trivial) (Sub.sel [3, 4, 5, 6, 7, 8, 9, 10, 11, 12, 96, 97, 99, 102, 104, 106, 109, 112] rfl) (fun _ h => h)
            ·
             refine Ll.slice (xs := []) (vs := []) Base.elem25 rfl rfl rfl rfl rfl rfl (by decide) rfl fun p105_13 hp105_13 => ?_
             refine Ll.nil (Lv.joint (fun _ h => h.tail.tail) ?_)
             exact Lv.to (H17__19 ⟨p105_13, p109_14⟩ trivial) (Sub.sel [3, 4, 5, 6, 7, 8, 9, 10, 11, 12, 96, 97, 99, 101, 104, 105, 106, 109, 112] rfl) (fun _ h => h)
          ·
           skip
           refine Lv.left lawFnSecondWins_o17_29x (by kernel_rfl) (fun _ h => h) ?_
           refine Lv.run 2 rfl (fun _ h => h) ?_
           refine Lv.nil ?_
           refine Kt.sel [3, 4, 5, 6, 7, 8, 9, 10, 11, 12] [_, _, _, _, _, _, _, _, _, _] rfl ?_
           refine Wk.regionQ ?_
           refine Lq.run 1 rfl ?_
           refine Lq.op rfl rfl rfl (OpQ.add rfl rfl rfl (by omega) (by omega)) ?_
           refine Lq.run 1 rfl ?_
           refine Lq.nil ?_
           refine Kt.again (j + 1) (by omega) (by omega) (Sub.cons rfl (Sub.cons rfl (Sub.cons rfl (Sub.cons rfl (Sub.cons rfl (Sub.cons rfl (Sub.cons rfl (Sub.cons rfl (Sub.cons (by rw [someW_succ, hg96]; rfl) (Sub.sel [12] rfl)))))))))) (fun _ h => h)
         ·
          replace h92 := of_decide_eq_false h92
          obtain rfl : j = b21.n.toNat := by omega
          refine Wk.exit rfl ?_
          refine Kt.sel [3, 4, 5, 6, 7, 8, 9, 10, 11] [_, _, _, _, _, _, _, _, _] rfl ?_
          refine Wk.regionQ ?_
          refine Lq.run 2 rfl ?_
          refine Lq.bool fun b116 hg116 => ?_
          cases b116
          ·
           skip
           refine Lq.pass rfl rfl rfl ?_
           refine Lq.run 2 rfl ?_
           refine Lq.nil ?_
           refine Kt.sel [3, 4, 5, 6, 7, 8, 9, 10] [_, _, _, _, _, _, _, _] rfl ?_
           refine Wk.regionQ ?_
           refine Lq.run 1 rfl ?_
           refine Lq.op rfl rfl rfl (OpQ.add rfl rfl rfl (by omega) (by omega)) ?_
           refine Lq.run 1 rfl ?_
           refine Lq.nil ?_
           refine Kt.again (i + 1) (by omega) (by omega) (Sub.cons rfl (Sub.cons rfl (Sub.cons rfl (Sub.cons rfl (Sub.cons rfl (Sub.cons rfl (Sub.cons (by rw [allW_succ, hg116]; rfl) (Sub.sel [10] rfl)))))))) (fun _ h => h)
          ·
           skip
           refine Lq.run 3 rfl ?_
           refine Lq.nil ?_
           refine Kt.sel [3, 4, 5, 6, 7, 8, 9, 10] [_, _, _, _, _, _, _, _] rfl ?_
           refine Wk.regionQ ?_
           refine Lq.run 1 rfl ?_
           refine Lq.op rfl rfl rfl (OpQ.add rfl rfl rfl (by omega) (by omega)) ?_
           refine Lq.run 1 rfl ?_
           refine Lq.nil ?_
           refine Kt.again (i + 1) (by omega) (by omega) (Sub.cons rfl (Sub.cons rfl (Sub.cons rfl (Sub.cons rfl (Sub.cons rfl (Sub.cons rfl (Sub.cons (by rw [allW_succ, hg116]; rfl) (Sub.sel [10] rfl)))))))) (fun _ h => h)
        ·
         replace h86 := of_decide_eq_false h86
         obtain rfl : i = a21.n.toNat := by omega
         refine Wk.exit rfl ?_
         refine Kt.sel [3, 4, 5, 6, 7, 8, 9] [_, _, _, _, _, _, _] rfl ?_
         refine Wk.seq ?_
         refine Wk.seq ?_
         refine Wk.regionQ ?_
         refine Lq.run 1 rfl ?_
         refine Lq.nil ?_
         refine Kt.sel [3, 4, 5, 6, 7, 8, 9, 13] [_, _, _, _, _, _, _, _] rfl ?_
         refine Wk.block ?_
         refine Wk.loop (σ := Nat) (fun k => (k : Int) ≤ b21.n) (fun k => [(3, pt_ p3), (4, v21), (5, pt_ p5), (6, u21), (7, i6_ r21), (8, bo_ (secB a21 xs21 b21 ys21 r21)), (9, bo_ (allW (secF a21 xs21 b21 ys21 r21) a21.n.toNat b21.n.toNat && allW (secG a21 xs21 b21 ys21 r21) k a21.n.toNat)), (13, i6_ ((k : Int)))]) (fun k => Own w.heap.size w (bk_ p5 #[i6_ b21.n, str b21.set, str b21.rel] 24 :: bk_ p3 #[i6_ a21.n, str a21.set, str a21.rel] 24 :: (new21 ++ ([])))) (fun k => (b21.n - k).toNat) (0) (by omega) (Sub.cons rfl (Sub.cons rfl (Sub.cons rfl (Sub.cons rfl (Sub.cons rfl (Sub.cons rfl (Sub.cons (by rw [show allW _ 0 _ = true from rfl, Bool.and_true]; rfl) (Sub.sel [13] rfl)))))))) (fun _ h => h) ?_
         rintro k hk
         refine Wk.seq ?_
         refine Wk.seq ?_
         refine Wk.regionQ ?_
         refine Lq.run 1 rfl ?_
         refine Lq.op rfl rfl rfl (OpQ.fieldAddr rfl Tryd.runUnderlying24 rfl Tryd.sizeOf3 rfl rfl) ?_
         refine Lq.op rfl rfl rfl (OpQ.loadOwn 0 rfl Tryd.isAgg3 rfl rfl rfl) ?_
         refine Lq.run 1 rfl ?_
         refine Lq.nil ?_
         refine Kt.sel [3, 4, 5, 6, 7, 8, 9, 13, 122] [_, _, _, _, _, _, _, _, _] rfl ?_
         refine Wk.cond (b := decide (((k : Int)) < b21.n)) rfl (fun h122 => ?_) (fun h122 => ?_)
         ·
          replace h122 := of_decide_eq_true h122
          refine Wk.skip ?_
          refine Kt.sel [3, 4, 5, 6, 7, 8, 9, 13] [_, _, _, _, _, _, _, _] rfl ?_
          refine Wk.seq ?_
          refine Wk.block ?_
          refine Wk.seq ?_
          refine Wk.regionQ ?_
          refine Lq.run 1 rfl ?_
          refine Lq.nil ?_
          refine Kt.sel [3, 4, 5, 6, 7, 8, 9, 13, 14] [_, _, _, _, _, _, _, _, _] rfl ?_
          refine Wk.seq ?_
          refine Wk.seq ?_
          refine Wk.regionQ ?_
          refine Lq.run 1 rfl ?_
          refine Lq.nil ?_
          refine Kt.sel [3, 4, 5, 6, 7, 8, 9, 13, 14, 15] [_, _, _, _, _, _, _, _, _, _] rfl ?_
          refine Wk.block ?_
          refine Wk.loop (σ := Nat) (fun l => (l : Int) ≤ a21.n) (fun l => [(3, pt_ p3), (4, v21), (5, pt_ p5), (6, u21), (7, i6_ r21), (8, bo_ (secB a21 xs21 b21 ys21 r21)), (9, bo_ (allW (secF a21 xs21 b21 ys21 r21) a21.n.toNat b21.n.toNat && allW (secG a21 xs21 b21 ys21 r21) k a21.n.toNat)), (13, i6_ ((k : Int))), (14, bo_ (someW (secG a21 xs21 b21 ys21 r21) k l)), (15, i6_ ((l : Int)))]) (fun l => Own w.heap.size w (bk_ p5 #[i6_ b21.n, str b21.set, str b21.rel] 24 :: bk_ p3 #[i6_ a21.n, str a21.set, str a21.rel] 24 :: (new21 ++ ([])))) (fun l => (a21.n - l).toNat) (0) (by omega) (Sub.cons rfl (Sub.cons rfl (Sub.cons rfl (Sub.cons rfl (Sub.cons rfl (Sub.cons rfl (Sub.cons rfl (Sub.cons rfl (Sub.cons (by rfl) (Sub.sel [15] rfl)))))))))) (fun _ h => h) ?_
          rintro l hl
          refine Wk.seq ?_
          refine Wk.seq ?_
          refine Wk.regionQ ?_
          refine Lq.run 1 rfl ?_
          refine Lq.op rfl rfl rfl (OpQ.fieldAddr rfl Tryd.runUnderlying24 rfl Tryd.sizeOf3 rfl rfl) ?_
          refine Lq.op rfl rfl rfl (OpQ.loadOwn 1 rfl Tryd.isAgg3 rfl rfl rfl) ?_
          refine Lq.run 1 rfl ?_
          refine Lq.nil ?_
          refine Kt.sel [3, 4, 5, 6, 7, 8, 9, 13, 14, 15, 128] [_, _, _, _, _, _, _, _, _, _, _] rfl ?_
          refine Wk.cond (b := decide (((l : Int)) < a21.n)) rfl (fun h128 => ?_) (fun h128 => ?_)
          ·
           replace h128 := of_decide_eq_true h128
           refine Wk.skip ?_
           refine Kt.sel [3, 4, 5, 6, 7, 8, 9, 13, 14, 15] [_, _, _, _, _, _, _, _, _, _] rfl ?_
           refine Wk.seq ?_
           refine Wk.block ?_
           refine Wk.regionV (S := Own w.heap.size w (bk_ p5 #[i6_ b21.n, str b21.set, str b21.rel] 24 :: bk_ p3 #[i6_ a21.n, str a21.set, str a21.rel] 24 :: (new21 ++ ([])))) lawFnSecondWins_o26_28x Base.mixed (fun _ h => h.drawn) (ovOk_at (by kernel_rfl) (by kernel_rfl) (by kernel_rfl) (by kernel_rfl) lawFnSecondWins_o26_28x_c) ?_
           refine Lv.run 2 rfl (fun _ h => h) ?_
           refine Lv.bool fun b132 hg132 => ?_
           cases b132
           ·
            skip
            refine Lv.share (σ := Nat × Nat × Nat × Array Value × Nat) lawFnSecondWins_o26_15x (fun ⟨p138, p139, cap139, cur139, p141⟩ => (cur139.size = cap139 * 1 ∧ (xs21 ++ ([(l : Int)])).length ≤ cap139 ∧ cur139.toList.take (xs21 ++ ([(l : Int)])).length = ints (xs21 ++ ([(l : Int)])))) (fun ⟨p138, p139, cap139, cur139, p141⟩ => [(3, pt_ p3), (4, v21), (5, pt_ p5), (6, u21), (7, i6_ r21), (8, bo_ (secB a21 xs21 b21 ys21 r21)), (9, bo_ (allW (secF a21 xs21 b21 ys21 r21) a21.n.toNat b21.n.toNat && allW (secG a21 xs21 b21 ys21 r21) k a21.n.toNat)), (13, i6_ ((k : Int))), (14, bo_ (someW (secG a21 xs21 b21 ys21 r21) k l)), (15, i6_ ((l : Int))), (132, bo_ false), (133, vS a21), (139, sl_ p139 (((xs21 ++ ([(l : Int)])).length)) cap139), (140, vS b21), (141, sl_ p141 0 0), (142, u21), (144, i6_ ((k : Int))), (148, i6_ (r21 - (1 : Int)))]) (fun ⟨p138, p139, cap139, cur139, p141⟩ => Own w.heap.size w (bk_ p138 #[i6_ ((l : Int))] 3 :: bk_ p139 cur139 3 :: bk_ p141 #[] 3 :: bk_ p5 #[i6_ b21.n, str b21.set, str b21.rel] 24 :: bk_ p3 #[i6_ a21.n, str a21.set, str a21.rel] 24 :: (new21 ++ ([])))) ?_ fun H26_ => ?_
            ·
             rintro ⟨p138, p139, cap139, cur139, p141⟩ ⟨hcp139, hlp139, htp139⟩
             dsimp only
             refine Lv.alt rfl ?_ (Lv.loud rfl ?_)
             ·
              refine Ll.appendInts (xs := []) (ys := ys21) Base.elem25 2 rfl rfl rfl rfl rfl rfl rfl rfl (by decide) rfl (fun w1 hw1 => (hIu21 _ (Own.dropR (Own.drop (f := [_, _, _, _, _]) hw1)))) ((ys21).length) (by first | (simp; done) | (simp; omega)) (by first | (simp; done) | (simp; omega) | omega) fun p143 cap143 cur143 hp143 hcp143 hlp143 htp143 => ?_
              show Ll _ _ (Own _ _ (_ :: _ :: _ :: _ :: _ :: (new21 ++ ([])))) _ _ ((143, sl_ p143 (((ys21).length)) cap143) :: _) _ _ _
              refine Ll.nil (Lv.joint (fun _ h => h.tail.tail.tail) ?_)
              refine Lv.loud rfl ?_
              refine Ll.slice (xs := [.tmp 144]) (vs := [i6_ ((k : Int))]) Base.elem25 rfl rfl rfl rfl rfl rfl (by decide) rfl fun p145 hp145 => ?_
              refine Ll.nil (Lv.joint (fun _ h => h.tail.tail.tail.tail) ?_)
              refine Lv.loud rfl ?_
              refine Ll.appendInts (xs := ys21) (ys := [(k : Int)]) Base.elem25 3 rfl rfl rfl rfl rfl rfl rfl hcp143 hlp143 (by simpa using htp143) (fun w1 hw1 => (Own.row hw1 (i := 0) rfl (n := 1) (cap := 1) (vs := ints [(k : Int)]) rfl rfl (by decide))) ((ys21 ++ ([(k : Int)])).length) (by first | (simp; done) | (simp; omega)) (by first | (simp; done) | (simp; omega) | omega) fun p146 cap146 cur146 hp146 hcp146 hlp146 htp146 => ?_
              show Ll _ _ (Own _ _ (_ :: _ :: _ :: _ :: _ :: _ :: (new21 ++ ([])))) _ _ ((146, sl_ p146 (((ys21 ++ ([(k : Int)])).length)) cap146) :: _) _ _ _
              refine Ll.nil (Lv.joint (fun _ h => h.tail.tail.tail.tail) ?_)
              refine Lv.loud rfl ?_
              refine Ll.op (v := bo_ (secB a21 (xs21 ++ ([(l : Int)])) b21 (ys21 ++ ([(k : Int)])) (r21 - (1 : Int)))) rfl rfl rfl (OpQ.call rfl Tryd.call26 rfl Own.stable (fun w1 hw1 => iWins_ok a21 b21 (xs21 ++ ([(l : Int)])) (ys21 ++ ([(k : Int)])) (sl_ p139 (((xs21 ++ ([(l : Int)])).length)) cap139) (sl_ p146 (((ys21 ++ ([(k : Int)])).length)) cap146) w1 hsa21 hsb21 (Own.row hw1 (i := 2) rfl (by simpa using htp139) (by simp) hlp139) (Own.row hw1 (i := 3) rfl (by simpa using htp146) (by simp) hlp146) (by first | (simp; done) | (simp; omega) | omega) (by first | (simp; done) | (simp; omega) | omega) (r21 - (1 : Int)))) ?_
              refine Ll.nil (Lv.joint (fun _ h => h.tail.tail.tail.tail) ?_)
              refine Lv.run 2 rfl (fun _ h => h.tail.tail.tail.tail) ?_
              refine Lv.nil ?_
              refine Kt.sel [3, 4, 5, 6, 7, 8, 9, 13, 14, 15] [_, _, _, _, _, _, _, _, _, _] rfl ?_
              refine Wk.regionQ ?_
              refine Lq.run 1 rfl ?_
              refine Lq.op rfl rfl rfl (OpQ.add rfl rfl rfl (by omega) (by omega)) ?_
              refine Lq.run 1 rfl ?_
              refine Lq.nil ?_
              refine Kt.again (l + 1) (by omega) (by omega) (Sub.cons rfl (Sub.cons rfl (Sub.cons rfl (Sub.cons rfl (Sub.cons rfl (Sub.cons rfl (Sub.cons rfl (Sub.cons rfl (Sub.cons (by rw [someW_succ, hg132]; rfl) (Sub.sel [15] rfl)))))))))) (fun _ h => h.tail.tail.tail.tail)
             ·
              refine Ll.slice (xs := [.tmp 144]) (vs := [i6_ ((k : Int))]) Base.elem25 rfl rfl rfl rfl rfl rfl (by decide) rfl fun p145_1 hp145_1 => ?_
              refine Ll.nil (Lv.joint (fun _ h => h.tail.tail.tail.tail) ?_)
              refine Lv.loud rfl ?_
              refine Ll.appendInts (xs := []) (ys := ys21) Base.elem25 3 rfl rfl rfl rfl rfl rfl rfl rfl (by decide) rfl (fun w1 hw1 => (hIu21 _ (Own.dropR (Own.drop (f := [_, _, _, _, _, _]) hw1)))) ((ys21).length) (by first | (simp; done) | (simp; omega)) (by first | (simp; done) | (simp; omega) | omega) fun p143_1 cap143_1 cur143_1 hp143_1 hcp143_1 hlp143_1 htp143_1 => ?_
              show Ll _ _ (Own _ _ (_ :: _ :: _ :: _ :: _ :: _ :: (new21 ++ ([])))) _ _ ((143, sl_ p143_1 (((ys21).length)) cap143_1) :: _) _ _ _
              refine Ll.nil (Lv.joint (fun _ h => h.tail.tail.tail.tail) ?_)
              refine Lv.loud rfl ?_
              refine Ll.appendInts (xs := ys21) (ys := [(k : Int)]) Base.elem25 3 rfl rfl rfl rfl rfl rfl rfl hcp143_1 hlp143_1 (by simpa using htp143_1) (fun w1 hw1 => (Own.row hw1 (i := 0) rfl (n := 1) (cap := 1) (vs := ints [(k : Int)]) rfl rfl (by decide))) ((ys21 ++ ([(k : Int)])).length) (by first | (simp; done) | (simp; omega)) (by first | (simp; done) | (simp; omega) | omega) fun p146_1 cap146_1 cur146_1 hp146_1 hcp146_1 hlp146_1 htp146_1 => ?_
              show Ll _ _ (Own _ _ (_ :: _ :: _ :: _ :: _ :: _ :: (new21 ++ ([])))) _ _ ((146, sl_ p146_1 (((ys21 ++ ([(k : Int)])).length)) cap146_1) :: _) _ _ _
              refine Ll.nil (Lv.joint (fun _ h => h.tail.tail.tail.tail) ?_)
              refine Lv.loud rfl ?_
              refine Ll.op (v := bo_ (secB a21 (xs21 ++ ([(l : Int)])) b21 (ys21 ++ ([(k : Int)])) (r21 - (1 : Int)))) rfl rfl rfl (OpQ.call rfl Tryd.call26 rfl Own.stable (fun w1 hw1 => iWins_ok a21 b21 (xs21 ++ ([(l : Int)])) (ys21 ++ ([(k : Int)])) (sl_ p139 (((xs21 ++ ([(l : Int)])).length)) cap139) (sl_ p146_1 (((ys21 ++ ([(k : Int)])).length)) cap146_1) w1 hsa21 hsb21 (Own.row hw1 (i := 2) rfl (by simpa using htp139) (by simp) hlp139) (Own.row hw1 (i := 3) rfl (by simpa using htp146_1) (by simp) hlp146_1) (by first | (simp; done) | (simp; omega) | omega) (by first | (simp; done) | (simp; omega) | omega) (r21 - (1 : Int)))) ?_
              refine Ll.nil (Lv.joint (fun _ h => h.tail.tail.tail.tail) ?_)
              refine Lv.run 2 rfl (fun _ h => h.tail.tail.tail.tail) ?_
              refine Lv.nil ?_
              refine Kt.sel [3, 4, 5, 6, 7, 8, 9, 13, 14, 15] [_, _, _, _, _, _, _, _, _, _] rfl ?_
              refine Wk.regionQ ?_
              refine Lq.run 1 rfl ?_
              refine Lq.op rfl rfl rfl (OpQ.add rfl rfl rfl (by omega) (by omega)) ?_
              refine Lq.run 1 rfl ?_
              refine Lq.nil ?_
              refine Kt.again (l + 1) (by omega) (by omega) (Sub.cons rfl (Sub.cons rfl (Sub.cons rfl (Sub.cons rfl (Sub.cons rfl (Sub.cons rfl (Sub.cons rfl (Sub.cons rfl (Sub.cons (by rw [someW_succ, hg132]; rfl) (Sub.sel [15] rfl)))))))))) (fun _ h => h.tail.tail.tail.tail)
            refine Lv.share (σ := Nat × Nat × Nat × Array Value × Nat) lawFnSecondWins_o26_6x (fun ⟨p138, p139, cap139, cur139, p145⟩ => (cur139.size = cap139 * 1 ∧ (xs21 ++ ([(l : Int)])).length ≤ cap139 ∧ cur139.toList.take (xs21 ++ ([(l : Int)])).length = ints (xs21 ++ ([(l : Int)])))) (fun ⟨p138, p139, cap139, cur139, p145⟩ => [(3, pt_ p3), (4, v21), (5, pt_ p5), (6, u21), (7, i6_ r21), (8, bo_ (secB a21 xs21 b21 ys21 r21)), (9, bo_ (allW (secF a21 xs21 b21 ys21 r21) a21.n.toNat b21.n.toNat && allW (secG a21 xs21 b21 ys21 r21) k a21.n.toNat)), (13, i6_ ((k : Int))), (14, bo_ (someW (secG a21 xs21 b21 ys21 r21) k l)), (15, i6_ ((l : Int))), (132, bo_ false), (133, vS a21), (139, sl_ p139 (((xs21 ++ ([(l : Int)])).length)) cap139), (140, vS b21), (142, u21), (145, sl_ p145 1 1), (148, i6_ (r21 - (1 : Int)))]) (fun ⟨p138, p139, cap139, cur139, p145⟩ => Own w.heap.size w (bk_ p138 #[i6_ ((l : Int))] 3 :: bk_ p139 cur139 3 :: bk_ p145 #[i6_ ((k : Int))] 3 :: bk_ p5 #[i6_ b21.n, str b21.set, str b21.rel] 24 :: bk_ p3 #[i6_ a21.n, str a21.set, str a21.rel] 24 :: (new21 ++ ([])))) ?_ fun H26__1 => ?_
            ·
             rintro ⟨p138, p139, cap139, cur139, p145⟩ ⟨hcp139, hlp139, htp139⟩
             dsimp only
             refine Lv.loud rfl ?_
             refine Ll.slice (xs := []) (vs := []) Base.elem25 rfl rfl rfl rfl rfl rfl (by decide) rfl fun p141 hp141 => ?_
             refine Ll.nil (Lv.joint (fun _ h => h.tail.tail.tail.tail) ?_)
             refine Lv.loud rfl ?_
             refine Ll.appendInts (xs := []) (ys := ys21) Base.elem25 0 rfl rfl rfl rfl rfl rfl rfl rfl (by decide) rfl (fun w1 hw1 => (hIu21 _ (Own.dropR (Own.drop (f := [_, _, _, _, _, _]) hw1)))) ((ys21).length) (by first | (simp; done) | (simp; omega)) (by first | (simp; done) | (simp; omega) | omega) fun p143_2 cap143_2 cur143_2 hp143_2 hcp143_2 hlp143_2 htp143_2 => ?_
             show Ll _ _ (Own _ _ (_ :: _ :: _ :: _ :: _ :: _ :: (new21 ++ ([])))) _ _ ((143, sl_ p143_2 (((ys21).length)) cap143_2) :: _) _ _ _
             refine Ll.nil (Lv.joint (fun _ h => h.tail.tail.tail.tail) ?_)
             refine Lv.loud rfl ?_
             refine Ll.appendInts (xs := ys21) (ys := [(k : Int)]) Base.elem25 0 rfl rfl rfl rfl rfl rfl rfl hcp143_2 hlp143_2 (by simpa using htp143_2) (fun w1 hw1 => (Own.row hw1 (i := 3) rfl (n := 1) (cap := 1) (vs := ints [(k : Int)]) rfl rfl (by decide))) ((ys21 ++ ([(k : Int)])).length) (by first | (simp; done) | (simp; omega)) (by first | (simp; done) | (simp; omega) | omega) fun p146_2 cap146_2 cur146_2 hp146_2 hcp146_2 hlp146_2 htp146_2 => ?_
             show Ll _ _ (Own _ _ (_ :: _ :: _ :: _ :: _ :: _ :: (new21 ++ ([])))) _ _ ((146, sl_ p146_2 (((ys21 ++ ([(k : Int)])).length)) cap146_2) :: _) _ _ _
             refine Ll.nil (Lv.joint (fun _ h => h.tail.tail.tail.tail) ?_)
             refine Lv.loud rfl ?_
             refine Ll.op (v := bo_ (secB a21 (xs21 ++ ([(l : Int)])) b21 (ys21 ++ ([(k : Int)])) (r21 - (1 : Int)))) rfl rfl rfl (OpQ.call rfl Tryd.call26 rfl Own.stable (fun w1 hw1 => iWins_ok a21 b21 (xs21 ++ ([(l : Int)])) (ys21 ++ ([(k : Int)])) (sl_ p139 (((xs21 ++ ([(l : Int)])).length)) cap139) (sl_ p146_2 (((ys21 ++ ([(k : Int)])).length)) cap146_2) w1 hsa21 hsb21 (Own.row hw1 (i := 2) rfl (by simpa using htp139) (by simp) hlp139) (Own.row hw1 (i := 0) rfl (by simpa using htp146_2) (by simp) hlp146_2) (by first | (simp; done) | (simp; omega) | omega) (by first | (simp; done) | (simp; omega) | omega) (r21 - (1 : Int)))) ?_
             refine Ll.nil (Lv.joint (fun _ h => h.tail.tail.tail.tail) ?_)
             refine Lv.run 2 rfl (fun _ h => h.tail.tail.tail.tail) ?_
             refine Lv.nil ?_
             refine Kt.sel [3, 4, 5, 6, 7, 8, 9, 13, 14, 15] [_, _, _, _, _, _, _, _, _, _] rfl ?_
             refine Wk.regionQ ?_
             refine Lq.run 1 rfl ?_
             refine Lq.op rfl rfl rfl (OpQ.add rfl rfl rfl (by omega) (by omega)) ?_
             refine Lq.run 1 rfl ?_
             refine Lq.nil ?_
             refine Kt.again (l + 1) (by omega) (by omega) (Sub.cons rfl (Sub.cons rfl (Sub.cons rfl (Sub.cons rfl (Sub.cons rfl (Sub.cons rfl (Sub.cons rfl (Sub.cons rfl (Sub.cons (by rw [someW_succ, hg132]; rfl) (Sub.sel [15] rfl)))))))))) (fun _ h => h.tail.tail.tail.tail)
            refine Lv.share (σ := Nat × Nat × Array Value × Nat × Nat × Nat) lawFnSecondWins_o26_5x (fun ⟨p136, cap136, cur136, p138, p141, p145⟩ => (cur136.size = cap136 * 1 ∧ (xs21).length ≤ cap136 ∧ cur136.toList.take (xs21).length = ints xs21)) (fun ⟨p136, cap136, cur136, p138, p141, p145⟩ => [(3, pt_ p3), (4, v21), (5, pt_ p5), (6, u21), (7, i6_ r21), (8, bo_ (secB a21 xs21 b21 ys21 r21)), (9, bo_ (allW (secF a21 xs21 b21 ys21 r21) a21.n.toNat b21.n.toNat && allW (secG a21 xs21 b21 ys21 r21) k a21.n.toNat)), (13, i6_ ((k : Int))), (14, bo_ (someW (secG a21 xs21 b21 ys21 r21) k l)), (15, i6_ ((l : Int))), (132, bo_ false), (133, vS a21), (136, sl_ p136 (((xs21).length)) cap136), (138, sl_ p138 1 1), (140, vS b21), (141, sl_ p141 0 0), (142, u21), (145, sl_ p145 1 1), (148, i6_ (r21 - (1 : Int)))]) (fun ⟨p136, cap136, cur136, p138, p141, p145⟩ => Own w.heap.size w (bk_ p136 cur136 3 :: bk_ p138 #[i6_ ((l : Int))] 3 :: bk_ p141 #[] 3 :: bk_ p145 #[i6_ ((k : Int))] 3 :: bk_ p5 #[i6_ b21.n, str b21.set, str b21.rel] 24 :: bk_ p3 #[i6_ a21.n, str a21.set, str a21.rel] 24 :: (new21 ++ ([])))) ?_ fun H26__2 => ?_
            ·
             rintro ⟨p136, cap136, cur136, p138, p141, p145⟩ ⟨hcp136, hlp136, htp136⟩
             dsimp only
             refine Lv.loud rfl ?_
             refine Ll.appendInts (xs := xs21) (ys := [(l : Int)]) Base.elem25 0 rfl rfl rfl rfl rfl rfl rfl hcp136 hlp136 (by simpa using htp136) (fun w1 hw1 => (Own.row hw1 (i := 1) rfl (n := 1) (cap := 1) (vs := ints [(l : Int)]) rfl rfl (by decide))) ((xs21 ++ ([(l : Int)])).length) (by first | (simp; done) | (simp; omega)) (by first | (simp; done) | (simp; omega) | omega) fun p139 cap139 cur139 hp139 hcp139 hlp139 htp139 => ?_
             show Ll _ _ (Own _ _ (_ :: _ :: _ :: _ :: _ :: _ :: (new21 ++ ([])))) _ _ ((139, sl_ p139 (((xs21 ++ ([(l : Int)])).length)) cap139) :: _) _ _ _
             refine Ll.nil (Lv.joint (fun _ h => h.tail.tail.tail.tail) ?_)
             refine Lv.loud rfl ?_
             refine Ll.appendInts (xs := []) (ys := ys21) Base.elem25 2 rfl rfl rfl rfl rfl rfl rfl rfl (by decide) rfl (fun w1 hw1 => (hIu21 _ (Own.dropR (Own.drop (f := [_, _, _, _, _, _]) hw1)))) ((ys21).length) (by first | (simp; done) | (simp; omega)) (by first | (simp; done) | (simp; omega) | omega) fun p143_3 cap143_3 cur143_3 hp143_3 hcp143_3 hlp143_3 htp143_3 => ?_
             show Ll _ _ (Own _ _ (_ :: _ :: _ :: _ :: _ :: _ :: (new21 ++ ([])))) _ _ ((143, sl_ p143_3 (((ys21).length)) cap143_3) :: _) _ _ _
             refine Ll.nil (Lv.joint (fun _ h => h.tail.tail.tail.tail) ?_)
             refine Lv.loud rfl ?_
             refine Ll.appendInts (xs := ys21) (ys := [(k : Int)]) Base.elem25 2 rfl rfl rfl rfl rfl rfl rfl hcp143_3 hlp143_3 (by simpa using htp143_3) (fun w1 hw1 => (Own.row hw1 (i := 3) rfl (n := 1) (cap := 1) (vs := ints [(k : Int)]) rfl rfl (by decide))) ((ys21 ++ ([(k : Int)])).length) (by first | (simp; done) | (simp; omega)) (by first | (simp; done) | (simp; omega) | omega) fun p146_3 cap146_3 cur146_3 hp146_3 hcp146_3 hlp146_3 htp146_3 => ?_
             show Ll _ _ (Own _ _ (_ :: _ :: _ :: _ :: _ :: _ :: (new21 ++ ([])))) _ _ ((146, sl_ p146_3 (((ys21 ++ ([(k : Int)])).length)) cap146_3) :: _) _ _ _
             refine Ll.nil (Lv.joint (fun _ h => h.tail.tail.tail.tail) ?_)
             refine Lv.loud rfl ?_
             refine Ll.op (v := bo_ (secB a21 (xs21 ++ ([(l : Int)])) b21 (ys21 ++ ([(k : Int)])) (r21 - (1 : Int)))) rfl rfl rfl (OpQ.call rfl Tryd.call26 rfl Own.stable (fun w1 hw1 => iWins_ok a21 b21 (xs21 ++ ([(l : Int)])) (ys21 ++ ([(k : Int)])) (sl_ p139 (((xs21 ++ ([(l : Int)])).length)) cap139) (sl_ p146_3 (((ys21 ++ ([(k : Int)])).length)) cap146_3) w1 hsa21 hsb21 (Own.row hw1 (i := 0) rfl (by simpa using htp139) (by simp) hlp139) (Own.row hw1 (i := 2) rfl (by simpa using htp146_3) (by simp) hlp146_3) (by first | (simp; done) | (simp; omega) | omega) (by first | (simp; done) | (simp; omega) | omega) (r21 - (1 : Int)))) ?_
             refine Ll.nil (Lv.joint (fun _ h => h.tail.tail.tail.tail) ?_)
             refine Lv.run 2 rfl (fun _ h => h.tail.tail.tail.tail) ?_
             refine Lv.nil ?_
             refine Kt.sel [3, 4, 5, 6, 7, 8, 9, 13, 14, 15] [_, _, _, _, _, _, _, _, _, _] rfl ?_
             refine Wk.regionQ ?_
             refine Lq.run 1 rfl ?_
             refine Lq.op rfl rfl rfl (OpQ.add rfl rfl rfl (by omega) (by omega)) ?_
             refine Lq.run 1 rfl ?_
             refine Lq.nil ?_
             refine Kt.again (l + 1) (by omega) (by omega) (Sub.cons rfl (Sub.cons rfl (Sub.cons rfl (Sub.cons rfl (Sub.cons rfl (Sub.cons rfl (Sub.cons rfl (Sub.cons rfl (Sub.cons (by rw [someW_succ, hg132]; rfl) (Sub.sel [15] rfl)))))))))) (fun _ h => h.tail.tail.tail.tail)
            refine Lv.share (σ := Nat × Nat × Array Value × Nat × Nat) lawFnSecondWins_o26_16x (fun ⟨p136, cap136, cur136, p138, p141⟩ => (cur136.size = cap136 * 1 ∧ (xs21).length ≤ cap136 ∧ cur136.toList.take (xs21).length = ints xs21)) (fun ⟨p136, cap136, cur136, p138, p141⟩ => [(3, pt_ p3), (4, v21), (5, pt_ p5), (6, u21), (7, i6_ r21), (8, bo_ (secB a21 xs21 b21 ys21 r21)), (9, bo_ (allW (secF a21 xs21 b21 ys21 r21) a21.n.toNat b21.n.toNat && allW (secG a21 xs21 b21 ys21 r21) k a21.n.toNat)), (13, i6_ ((k : Int))), (14, bo_ (someW (secG a21 xs21 b21 ys21 r21) k l)), (15, i6_ ((l : Int))), (132, bo_ false), (133, vS a21), (136, sl_ p136 (((xs21).length)) cap136), (138, sl_ p138 1 1), (140, vS b21), (141, sl_ p141 0 0), (142, u21), (144, i6_ ((k : Int))), (148, i6_ (r21 - (1 : Int)))]) (fun ⟨p136, cap136, cur136, p138, p141⟩ => Own w.heap.size w (bk_ p136 cur136 3 :: bk_ p138 #[i6_ ((l : Int))] 3 :: bk_ p141 #[] 3 :: bk_ p5 #[i6_ b21.n, str b21.set, str b21.rel] 24 :: bk_ p3 #[i6_ a21.n, str a21.set, str a21.rel] 24 :: (new21 ++ ([])))) ?_ fun H26__3 => ?_
            ·
             rintro ⟨p136, cap136, cur136, p138, p141⟩ ⟨hcp136, hlp136, htp136⟩
             dsimp only
             refine Lv.alt rfl ?_ (Lv.loud rfl ?_)
             ·
              refine Ll.appendInts (xs := xs21) (ys := [(l : Int)]) Base.elem25 0 rfl rfl rfl rfl rfl rfl rfl hcp136 hlp136 (by simpa using htp136) (fun w1 hw1 => (Own.row hw1 (i := 1) rfl (n := 1) (cap := 1) (vs := ints [(l : Int)]) rfl rfl (by decide))) ((xs21 ++ ([(l : Int)])).length) (by first | (simp; done) | (simp; omega)) (by first | (simp; done) | (simp; omega) | omega) fun p139_1 cap139_1 cur139_1 hp139_1 hcp139_1 hlp139_1 htp139_1 => ?_
              show Ll _ _ (Own _ _ (_ :: _ :: _ :: _ :: _ :: (new21 ++ ([])))) _ _ ((139, sl_ p139_1 (((xs21 ++ ([(l : Int)])).length)) cap139_1) :: _) _ _ _
              refine Ll.nil (Lv.joint (fun _ h => h.tail.tail.tail) ?_)
              exact Lv.to (H26_ ⟨p138, p139_1, cap139_1, cur139_1, p141⟩ ⟨by simpa using hcp139_1, hlp139_1, by simpa using (by simpa using htp139_1)⟩) (Sub.sel [3, 4, 5, 6, 7, 8, 9, 13, 14, 15, 132, 133, 139, 140, 141, 142, 144, 148] rfl) (fun _ h => Own.pickT (hs := [_, _, _]) (hs' := [_, _, _]) h [1, 0, 2] rfl (by decide))
             ·
              refine Ll.slice (xs := [.tmp 144]) (vs := [i6_ ((k : Int))]) Base.elem25 rfl rfl rfl rfl rfl rfl (by decide) rfl fun p145_2 hp145_2 => ?_
              refine Ll.nil (Lv.joint (fun _ h => h.tail.tail.tail.tail) ?_)
              exact Lv.to (H26__2 ⟨p136, cap136, cur136, p138, p141, p145_2⟩ ⟨by simpa using hcp136, hlp136, by simpa using (by simpa using htp136)⟩) (Sub.sel [3, 4, 5, 6, 7, 8, 9, 13, 14, 15, 132, 133, 136, 138, 140, 141, 142, 145, 148] rfl) (fun _ h => Own.pickT (hs := [_, _, _, _]) (hs' := [_, _, _, _]) h [1, 2, 3, 0] rfl (by decide))
            refine Lv.share (σ := Nat × Nat × Array Value × Nat × Nat) lawFnSecondWins_o26_7x (fun ⟨p136, cap136, cur136, p138, p145⟩ => (cur136.size = cap136 * 1 ∧ (xs21).length ≤ cap136 ∧ cur136.toList.take (xs21).length = ints xs21)) (fun ⟨p136, cap136, cur136, p138, p145⟩ => [(3, pt_ p3), (4, v21), (5, pt_ p5), (6, u21), (7, i6_ r21), (8, bo_ (secB a21 xs21 b21 ys21 r21)), (9, bo_ (allW (secF a21 xs21 b21 ys21 r21) a21.n.toNat b21.n.toNat && allW (secG a21 xs21 b21 ys21 r21) k a21.n.toNat)), (13, i6_ ((k : Int))), (14, bo_ (someW (secG a21 xs21 b21 ys21 r21) k l)), (15, i6_ ((l : Int))), (132, bo_ false), (133, vS a21), (136, sl_ p136 (((xs21).length)) cap136), (138, sl_ p138 1 1), (140, vS b21), (142, u21), (145, sl_ p145 1 1), (148, i6_ (r21 - (1 : Int)))]) (fun ⟨p136, cap136, cur136, p138, p145⟩ => Own w.heap.size w (bk_ p136 cur136 3 :: bk_ p138 #[i6_ ((l : Int))] 3 :: bk_ p145 #[i6_ ((k : Int))] 3 :: bk_ p5 #[i6_ b21.n, str b21.set, str b21.rel] 24 :: bk_ p3 #[i6_ a21.n, str a21.set, str a21.rel] 24 :: (new21 ++ ([])))) ?_ fun H26__4 => ?_
            ·
             rintro ⟨p136, cap136, cur136, p138, p145⟩ ⟨hcp136, hlp136, htp136⟩
             dsimp only
             refine Lv.alt rfl ?_ (Lv.loud rfl ?_)
             ·
              refine Ll.appendInts (xs := xs21) (ys := [(l : Int)]) Base.elem25 0 rfl rfl rfl rfl rfl rfl rfl hcp136 hlp136 (by simpa using htp136) (fun w1 hw1 => (Own.row hw1 (i := 1) rfl (n := 1) (cap := 1) (vs := ints [(l : Int)]) rfl rfl (by decide))) ((xs21 ++ ([(l : Int)])).length) (by first | (simp; done) | (simp; omega)) (by first | (simp; done) | (simp; omega) | omega) fun p139_2 cap139_2 cur139_2 hp139_2 hcp139_2 hlp139_2 htp139_2 => ?_
              show Ll _ _ (Own _ _ (_ :: _ :: _ :: _ :: _ :: (new21 ++ ([])))) _ _ ((139, sl_ p139_2 (((xs21 ++ ([(l : Int)])).length)) cap139_2) :: _) _ _ _
              refine Ll.nil (Lv.joint (fun _ h => h.tail.tail.tail) ?_)
              exact Lv.to (H26__1 ⟨p138, p139_2, cap139_2, cur139_2, p145⟩ ⟨by simpa using hcp139_2, hlp139_2, by simpa using (by simpa using htp139_2)⟩) (Sub.sel [3, 4, 5, 6, 7, 8, 9, 13, 14, 15, 132, 133, 139, 140, 142, 145, 148] rfl) (fun _ h => Own.pickT (hs := [_, _, _]) (hs' := [_, _, _]) h [1, 0, 2] rfl (by decide))
             ·
              refine Ll.slice (xs := []) (vs := []) Base.elem25 rfl rfl rfl rfl rfl rfl (by decide) rfl fun p141_1 hp141_1 => ?_
              refine Ll.nil (Lv.joint (fun _ h => h.tail.tail.tail.tail) ?_)
              exact Lv.to (H26__2 ⟨p136, cap136, cur136, p138, p141_1, p145⟩ ⟨by simpa using hcp136, hlp136, by simpa using (by simpa using htp136)⟩) (Sub.sel [3, 4, 5, 6, 7, 8, 9, 13, 14, 15, 132, 133, 136, 138, 140, 141, 142, 145, 148] rfl) (fun _ h => Own.pickT (hs := [_, _, _, _]) (hs' := [_, _, _, _]) h [1, 2, 0, 3] rfl (by decide))
            refine Lv.share (σ := Nat × Nat × Array Value × Nat × Nat) lawFnSecondWins_o26_2x (fun ⟨p136, cap136, cur136, p141, p145⟩ => (cur136.size = cap136 * 1 ∧ (xs21).length ≤ cap136 ∧ cur136.toList.take (xs21).length = ints xs21)) (fun ⟨p136, cap136, cur136, p141, p145⟩ => [(3, pt_ p3), (4, v21), (5, pt_ p5), (6, u21), (7, i6_ r21), (8, bo_ (secB a21 xs21 b21 ys21 r21)), (9, bo_ (allW (secF a21 xs21 b21 ys21 r21) a21.n.toNat b21.n.toNat && allW (secG a21 xs21 b21 ys21 r21) k a21.n.toNat)), (13, i6_ ((k : Int))), (14, bo_ (someW (secG a21 xs21 b21 ys21 r21) k l)), (15, i6_ ((l : Int))), (132, bo_ false), (133, vS a21), (136, sl_ p136 (((xs21).length)) cap136), (137, i6_ ((l : Int))), (140, vS b21), (141, sl_ p141 0 0), (142, u21), (145, sl_ p145 1 1), (148, i6_ (r21 - (1 : Int)))]) (fun ⟨p136, cap136, cur136, p141, p145⟩ => Own w.heap.size w (bk_ p136 cur136 3 :: bk_ p141 #[] 3 :: bk_ p145 #[i6_ ((k : Int))] 3 :: bk_ p5 #[i6_ b21.n, str b21.set, str b21.rel] 24 :: bk_ p3 #[i6_ a21.n, str a21.set, str a21.rel] 24 :: (new21 ++ ([])))) ?_ fun H26__5 => ?_
            ·
             rintro ⟨p136, cap136, cur136, p141, p145⟩ ⟨hcp136, hlp136, htp136⟩
             dsimp only
             refine Lv.loud rfl ?_
             refine Ll.slice (xs := [.tmp 137]) (vs := [i6_ ((l : Int))]) Base.elem25 rfl rfl rfl rfl rfl rfl (by decide) rfl fun p138 hp138 => ?_
             refine Ll.nil (Lv.joint (fun _ h => h.tail.tail.tail.tail) ?_)
             refine Lv.loud rfl ?_
             refine Ll.appendInts (xs := xs21) (ys := [(l : Int)]) Base.elem25 1 rfl rfl rfl rfl rfl rfl rfl hcp136 hlp136 (by simpa using htp136) (fun w1 hw1 => (Own.row hw1 (i := 0) rfl (n := 1) (cap := 1) (vs := ints [(l : Int)]) rfl rfl (by decide))) ((xs21 ++ ([(l : Int)])).length) (by first | (simp; done) | (simp; omega)) (by first | (simp; done) | (simp; omega) | omega) fun p139_3 cap139_3 cur139_3 hp139_3 hcp139_3 hlp139_3 htp139_3 => ?_
             show Ll _ _ (Own _ _ (_ :: _ :: _ :: _ :: _ :: _ :: (new21 ++ ([])))) _ _ ((139, sl_ p139_3 (((xs21 ++ ([(l : Int)])).length)) cap139_3) :: _) _ _ _
             refine Ll.nil (Lv.joint (fun _ h => h.tail.tail.tail.tail) ?_)
             refine Lv.loud rfl ?_
             refine Ll.appendInts (xs := []) (ys := ys21) Base.elem25 2 rfl rfl rfl rfl rfl rfl rfl rfl (by decide) rfl (fun w1 hw1 => (hIu21 _ (Own.dropR (Own.drop (f := [_, _, _, _, _, _]) hw1)))) ((ys21).length) (by first | (simp; done) | (simp; omega)) (by first | (simp; done) | (simp; omega) | omega) fun p143_4 cap143_4 cur143_4 hp143_4 hcp143_4 hlp143_4 htp143_4 => ?_
             show Ll _ _ (Own _ _ (_ :: _ :: _ :: _ :: _ :: _ :: (new21 ++ ([])))) _ _ ((143, sl_ p143_4 (((ys21).length)) cap143_4) :: _) _ _ _
             refine Ll.nil (Lv.joint (fun _ h => h.tail.tail.tail.tail) ?_)
             refine Lv.loud rfl ?_
             refine Ll.appendInts (xs := ys21) (ys := [(k : Int)]) Base.elem25 2 rfl rfl rfl rfl rfl rfl rfl hcp143_4 hlp143_4 (by simpa using htp143_4) (fun w1 hw1 => (Own.row hw1 (i := 3) rfl (n := 1) (cap := 1) (vs := ints [(k : Int)]) rfl rfl (by decide))) ((ys21 ++ ([(k : Int)])).length) (by first | (simp; done) | (simp; omega)) (by first | (simp; done) | (simp; omega) | omega) fun p146_4 cap146_4 cur146_4 hp146_4 hcp146_4 hlp146_4 htp146_4 => ?_
             show Ll _ _ (Own _ _ (_ :: _ :: _ :: _ :: _ :: _ :: (new21 ++ ([])))) _ _ ((146, sl_ p146_4 (((ys21 ++ ([(k : Int)])).length)) cap146_4) :: _) _ _ _
             refine Ll.nil (Lv.joint (fun _ h => h.tail.tail.tail.tail) ?_)
             refine Lv.loud rfl ?_
             refine Ll.op (v := bo_ (secB a21 (xs21 ++ ([(l : Int)])) b21 (ys21 ++ ([(k : Int)])) (r21 - (1 : Int)))) rfl rfl rfl (OpQ.call rfl Tryd.call26 rfl Own.stable (fun w1 hw1 => iWins_ok a21 b21 (xs21 ++ ([(l : Int)])) (ys21 ++ ([(k : Int)])) (sl_ p139_3 (((xs21 ++ ([(l : Int)])).length)) cap139_3) (sl_ p146_4 (((ys21 ++ ([(k : Int)])).length)) cap146_4) w1 hsa21 hsb21 (Own.row hw1 (i := 1) rfl (by simpa using htp139_3) (by simp) hlp139_3) (Own.row hw1 (i := 2) rfl (by simpa using htp146_4) (by simp) hlp146_4) (by first | (simp; done) | (simp; omega) | omega) (by first | (simp; done) | (simp; omega) | omega) (r21 - (1 : Int)))) ?_
             refine Ll.nil (Lv.joint (fun _ h => h.tail.tail.tail.tail) ?_)
             refine Lv.run 2 rfl (fun _ h => h.tail.tail.tail.tail) ?_
             refine Lv.nil ?_
             refine Kt.sel [3, 4, 5, 6, 7, 8, 9, 13, 14, 15] [_, _, _, _, _, _, _, _, _, _] rfl ?_
             refine Wk.regionQ ?_
             refine Lq.run 1 rfl ?_
             refine Lq.op rfl rfl rfl (OpQ.add rfl rfl rfl (by omega) (by omega)) ?_
             refine Lq.run 1 rfl ?_
             refine Lq.nil ?_
             refine Kt.again (l + 1) (by omega) (by omega) (Sub.cons rfl (Sub.cons rfl (Sub.cons rfl (Sub.cons rfl (Sub.cons rfl (Sub.cons rfl (Sub.cons rfl (Sub.cons rfl (Sub.cons (by rw [someW_succ, hg132]; rfl) (Sub.sel [15] rfl)))))))))) (fun _ h => h.tail.tail.tail.tail)
            refine Lv.share (σ := Nat × Nat × Nat × Nat) lawFnSecondWins_o26_1x (fun ⟨p134, p138, p141, p145⟩ => True) (fun ⟨p134, p138, p141, p145⟩ => [(3, pt_ p3), (4, v21), (5, pt_ p5), (6, u21), (7, i6_ r21), (8, bo_ (secB a21 xs21 b21 ys21 r21)), (9, bo_ (allW (secF a21 xs21 b21 ys21 r21) a21.n.toNat b21.n.toNat && allW (secG a21 xs21 b21 ys21 r21) k a21.n.toNat)), (13, i6_ ((k : Int))), (14, bo_ (someW (secG a21 xs21 b21 ys21 r21) k l)), (15, i6_ ((l : Int))), (132, bo_ false), (133, vS a21), (134, sl_ p134 0 0), (135, v21), (138, sl_ p138 1 1), (140, vS b21), (141, sl_ p141 0 0), (142, u21), (145, sl_ p145 1 1), (148, i6_ (r21 - (1 : Int)))]) (fun ⟨p134, p138, p141, p145⟩ => Own w.heap.size w (bk_ p134 #[] 3 :: bk_ p138 #[i6_ ((l : Int))] 3 :: bk_ p141 #[] 3 :: bk_ p145 #[i6_ ((k : Int))] 3 :: bk_ p5 #[i6_ b21.n, str b21.set, str b21.rel] 24 :: bk_ p3 #[i6_ a21.n, str a21.set, str a21.rel] 24 :: (new21 ++ ([])))) ?_ fun H26__6 => ?_
            ·
             rintro ⟨p134, p138, p141, p145⟩ -
             dsimp only
             refine Lv.loud rfl ?_
             refine Ll.appendInts (xs := []) (ys := xs21) Base.elem25 0 rfl rfl rfl rfl rfl rfl rfl rfl (by decide) rfl (fun w1 hw1 => (hIv21 _ (Own.dropR (Own.drop (f := [_, _, _, _, _, _]) hw1)))) ((xs21).length) (by first | (simp; done) | (simp; omega)) (by first | (simp; done) | (simp; omega) | omega) fun p136 cap136 cur136 hp136 hcp136 hlp136 htp136 => ?_
             show Ll _ _ (Own _ _ (_ :: _ :: _ :: _ :: _ :: _ :: (new21 ++ ([])))) _ _ ((136, sl_ p136 (((xs21).length)) cap136) :: _) _ _ _
             refine Ll.nil (Lv.joint (fun _ h => h.tail.tail.tail.tail) ?_)
             refine Lv.loud rfl ?_
             refine Ll.appendInts (xs := xs21) (ys := [(l : Int)]) Base.elem25 0 rfl rfl rfl rfl rfl rfl rfl hcp136 hlp136 (by simpa using htp136) (fun w1 hw1 => (Own.row hw1 (i := 1) rfl (n := 1) (cap := 1) (vs := ints [(l : Int)]) rfl rfl (by decide))) ((xs21 ++ ([(l : Int)])).length) (by first | (simp; done) | (simp; omega)) (by first | (simp; done) | (simp; omega) | omega) fun p139_4 cap139_4 cur139_4 hp139_4 hcp139_4 hlp139_4 htp139_4 => ?_
             show Ll _ _ (Own _ _ (_ :: _ :: _ :: _ :: _ :: _ :: (new21 ++ ([])))) _ _ ((139, sl_ p139_4 (((xs21 ++ ([(l : Int)])).length)) cap139_4) :: _) _ _ _
             refine Ll.nil (Lv.joint (fun _ h => h.tail.tail.tail.tail) ?_)
             refine Lv.loud rfl ?_
             refine Ll.appendInts (xs := []) (ys := ys21) Base.elem25 2 rfl rfl rfl rfl rfl rfl rfl rfl (by decide) rfl (fun w1 hw1 => (hIu21 _ (Own.dropR (Own.drop (f := [_, _, _, _, _, _]) hw1)))) ((ys21).length) (by first | (simp; done) | (simp; omega)) (by first | (simp; done) | (simp; omega) | omega) fun p143_5 cap143_5 cur143_5 hp143_5 hcp143_5 hlp143_5 htp143_5 => ?_
             show Ll _ _ (Own _ _ (_ :: _ :: _ :: _ :: _ :: _ :: (new21 ++ ([])))) _ _ ((143, sl_ p143_5 (((ys21).length)) cap143_5) :: _) _ _ _
             refine Ll.nil (Lv.joint (fun _ h => h.tail.tail.tail.tail) ?_)
             refine Lv.loud rfl ?_
             refine Ll.appendInts (xs := ys21) (ys := [(k : Int)]) Base.elem25 2 rfl rfl rfl rfl rfl rfl rfl hcp143_5 hlp143_5 (by simpa using htp143_5) (fun w1 hw1 => (Own.row hw1 (i := 3) rfl (n := 1) (cap := 1) (vs := ints [(k : Int)]) rfl rfl (by decide))) ((ys21 ++ ([(k : Int)])).length) (by first | (simp; done) | (simp; omega)) (by first | (simp; done) | (simp; omega) | omega) fun p146_5 cap146_5 cur146_5 hp146_5 hcp146_5 hlp146_5 htp146_5 => ?_
             show Ll _ _ (Own _ _ (_ :: _ :: _ :: _ :: _ :: _ :: (new21 ++ ([])))) _ _ ((146, sl_ p146_5 (((ys21 ++ ([(k : Int)])).length)) cap146_5) :: _) _ _ _
             refine Ll.nil (Lv.joint (fun _ h => h.tail.tail.tail.tail) ?_)
             refine Lv.loud rfl ?_
             refine Ll.op (v := bo_ (secB a21 (xs21 ++ ([(l : Int)])) b21 (ys21 ++ ([(k : Int)])) (r21 - (1 : Int)))) rfl rfl rfl (OpQ.call rfl Tryd.call26 rfl Own.stable (fun w1 hw1 => iWins_ok a21 b21 (xs21 ++ ([(l : Int)])) (ys21 ++ ([(k : Int)])) (sl_ p139_4 (((xs21 ++ ([(l : Int)])).length)) cap139_4) (sl_ p146_5 (((ys21 ++ ([(k : Int)])).length)) cap146_5) w1 hsa21 hsb21 (Own.row hw1 (i := 0) rfl (by simpa using htp139_4) (by simp) hlp139_4) (Own.row hw1 (i := 2) rfl (by simpa using htp146_5) (by simp) hlp146_5) (by first | (simp; done) | (simp; omega) | omega) (by first | (simp; done) | (simp; omega) | omega) (r21 - (1 : Int)))) ?_
             refine Ll.nil (Lv.joint (fun _ h => h.tail.tail.tail.tail) ?_)
             refine Lv.run 2 rfl (fun _ h => h.tail.tail.tail.tail) ?_
             refine Lv.nil ?_
             refine Kt.sel [3, 4, 5, 6, 7, 8, 9, 13, 14, 15] [_, _, _, _, _, _, _, _, _, _] rfl ?_
             refine Wk.regionQ ?_
             refine Lq.run 1 rfl ?_
             refine Lq.op rfl rfl rfl (OpQ.add rfl rfl rfl (by omega) (by omega)) ?_
             refine Lq.run 1 rfl ?_
             refine Lq.nil ?_
             refine Kt.again (l + 1) (by omega) (by omega) (Sub.cons rfl (Sub.cons rfl (Sub.cons rfl (Sub.cons rfl (Sub.cons rfl (Sub.cons rfl (Sub.cons rfl (Sub.cons rfl (Sub.cons (by rw [someW_succ, hg132]; rfl) (Sub.sel [15] rfl)))))))))) (fun _ h => h.tail.tail.tail.tail)
            refine Lv.share (σ := Nat × Nat × Array Value × Nat) lawFnSecondWins_o26_23x (fun ⟨p136, cap136, cur136, p138⟩ => (cur136.size = cap136 * 1 ∧ (xs21).length ≤ cap136 ∧ cur136.toList.take (xs21).length = ints xs21)) (fun ⟨p136, cap136, cur136, p138⟩ => [(3, pt_ p3), (4, v21), (5, pt_ p5), (6, u21), (7, i6_ r21), (8, bo_ (secB a21 xs21 b21 ys21 r21)), (9, bo_ (allW (secF a21 xs21 b21 ys21 r21) a21.n.toNat b21.n.toNat && allW (secG a21 xs21 b21 ys21 r21) k a21.n.toNat)), (13, i6_ ((k : Int))), (14, bo_ (someW (secG a21 xs21 b21 ys21 r21) k l)), (15, i6_ ((l : Int))), (132, bo_ false), (133, vS a21), (136, sl_ p136 (((xs21).length)) cap136), (138, sl_ p138 1 1), (140, vS b21), (142, u21), (144, i6_ ((k : Int))), (148, i6_ (r21 - (1 : Int)))]) (fun ⟨p136, cap136, cur136, p138⟩ => Own w.heap.size w (bk_ p136 cur136 3 :: bk_ p138 #[i6_ ((l : Int))] 3 :: bk_ p5 #[i6_ b21.n, str b21.set, str b21.rel] 24 :: bk_ p3 #[i6_ a21.n, str a21.set, str a21.rel] 24 :: (new21 ++ ([])))) ?_ fun H26__7 => ?_
            ·
             rintro ⟨p136, cap136, cur136, p138⟩ ⟨hcp136, hlp136, htp136⟩
             dsimp only
             refine Lv.alt rfl ?_ (Lv.alt rfl ?_ (Lv.loud rfl ?_))
             ·
              refine Ll.appendInts (xs := xs21) (ys := [(l : Int)]) Base.elem25 0 rfl rfl rfl rfl rfl rfl rfl hcp136 hlp136 (by simpa using htp136) (fun w1 hw1 => (Own.row hw1 (i := 1) rfl (n := 1) (cap := 1) (vs := ints [(l : Int)]) rfl rfl (by decide))) ((xs21 ++ ([(l : Int)])).length) (by first | (simp; done) | (simp; omega)) (by first | (simp; done) | (simp; omega) | omega) fun p139_5 cap139_5 cur139_5 hp139_5 hcp139_5 hlp139_5 htp139_5 => ?_
              show Ll _ _ (Own _ _ (_ :: _ :: _ :: _ :: (new21 ++ ([])))) _ _ ((139, sl_ p139_5 (((xs21 ++ ([(l : Int)])).length)) cap139_5) :: _) _ _ _
              refine Ll.nil (Lv.joint (fun _ h => h.tail.tail) ?_)
              refine Lv.alt rfl ?_ (Lv.loud rfl ?_)
              ·
               refine Ll.slice (xs := []) (vs := []) Base.elem25 rfl rfl rfl rfl rfl rfl (by decide) rfl fun p141_2 hp141_2 => ?_
               refine Ll.nil (Lv.joint (fun _ h => h.tail.tail.tail) ?_)
               exact Lv.to (H26_ ⟨p138, p139_5, cap139_5, cur139_5, p141_2⟩ ⟨by simpa using hcp139_5, hlp139_5, by simpa using (by simpa using htp139_5)⟩) (Sub.sel [3, 4, 5, 6, 7, 8, 9, 13, 14, 15, 132, 133, 139, 140, 141, 142, 144, 148] rfl) (fun _ h => Own.pickT (hs := [_, _, _]) (hs' := [_, _, _]) h [2, 1, 0] rfl (by decide))
              ·
               refine Ll.slice (xs := [.tmp 144]) (vs := [i6_ ((k : Int))]) Base.elem25 rfl rfl rfl rfl rfl rfl (by decide) rfl fun p145_3 hp145_3 => ?_
               refine Ll.nil (Lv.joint (fun _ h => h.tail.tail.tail) ?_)
               exact Lv.to (H26__1 ⟨p138, p139_5, cap139_5, cur139_5, p145_3⟩ ⟨by simpa using hcp139_5, hlp139_5, by simpa using (by simpa using htp139_5)⟩) (Sub.sel [3, 4, 5, 6, 7, 8, 9, 13, 14, 15, 132, 133, 139, 140, 142, 145, 148] rfl) (fun _ h => Own.pickT (hs := [_, _, _]) (hs' := [_, _, _]) h [2, 1, 0] rfl (by decide))
             ·
              refine Ll.slice (xs := []) (vs := []) Base.elem25 rfl rfl rfl rfl rfl rfl (by decide) rfl fun p141_3 hp141_3 => ?_
              refine Ll.nil (Lv.joint (fun _ h => h.tail.tail.tail) ?_)
              exact Lv.to (H26__3 ⟨p136, cap136, cur136, p138, p141_3⟩ ⟨by simpa using hcp136, hlp136, by simpa using (by simpa using htp136)⟩) (Sub.sel [3, 4, 5, 6, 7, 8, 9, 13, 14, 15, 132, 133, 136, 138, 140, 141, 142, 144, 148] rfl) (fun _ h => Own.pickT (hs := [_, _, _]) (hs' := [_, _, _]) h [1, 2, 0] rfl (by decide))
             ·
              refine Ll.slice (xs := [.tmp 144]) (vs := [i6_ ((k : Int))]) Base.elem25 rfl rfl rfl rfl rfl rfl (by decide) rfl fun p145_4 hp145_4 => ?_
              refine Ll.nil (Lv.joint (fun _ h => h.tail.tail.tail) ?_)
              exact Lv.to (H26__4 ⟨p136, cap136, cur136, p138, p145_4⟩ ⟨by simpa using hcp136, hlp136, by simpa using (by simpa using htp136)⟩) (Sub.sel [3, 4, 5, 6, 7, 8, 9, 13, 14, 15, 132, 133, 136, 138, 140, 142, 145, 148] rfl) (fun _ h => Own.pickT (hs := [_, _, _]) (hs' := [_, _, _]) h [1, 2, 0] rfl (by decide))
            refine Lv.share (σ := Nat × Nat × Array Value × Nat) lawFnSecondWins_o26_19x (fun ⟨p136, cap136, cur136, p141⟩ => (cur136.size = cap136 * 1 ∧ (xs21).length ≤ cap136 ∧ cur136.toList.take (xs21).length = ints xs21)) (fun ⟨p136, cap136, cur136, p141⟩ => [(3, pt_ p3), (4, v21), (5, pt_ p5), (6, u21), (7, i6_ r21), (8, bo_ (secB a21 xs21 b21 ys21 r21)), (9, bo_ (allW (secF a21 xs21 b21 ys21 r21) a21.n.toNat b21.n.toNat && allW (secG a21 xs21 b21 ys21 r21) k a21.n.toNat)), (13, i6_ ((k : Int))), (14, bo_ (someW (secG a21 xs21 b21 ys21 r21) k l)), (15, i6_ ((l : Int))), (132, bo_ false), (133, vS a21), (136, sl_ p136 (((xs21).length)) cap136), (137, i6_ ((l : Int))), (140, vS b21), (141, sl_ p141 0 0), (142, u21), (144, i6_ ((k : Int))), (148, i6_ (r21 - (1 : Int)))]) (fun ⟨p136, cap136, cur136, p141⟩ => Own w.heap.size w (bk_ p136 cur136 3 :: bk_ p141 #[] 3 :: bk_ p5 #[i6_ b21.n, str b21.set, str b21.rel] 24 :: bk_ p3 #[i6_ a21.n, str a21.set, str a21.rel] 24 :: (new21 ++ ([])))) ?_ fun H26__8 => ?_
            ·
             rintro ⟨p136, cap136, cur136, p141⟩ ⟨hcp136, hlp136, htp136⟩
             dsimp only
             refine Lv.alt rfl ?_ (Lv.loud rfl ?_)
             ·
              refine Ll.slice (xs := [.tmp 137]) (vs := [i6_ ((l : Int))]) Base.elem25 rfl rfl rfl rfl rfl rfl (by decide) rfl fun p138_1 hp138_1 => ?_
              refine Ll.nil (Lv.joint (fun _ h => h.tail.tail.tail) ?_)
              exact Lv.to (H26__3 ⟨p136, cap136, cur136, p138_1, p141⟩ ⟨by simpa using hcp136, hlp136, by simpa using (by simpa using htp136)⟩) (Sub.sel [3, 4, 5, 6, 7, 8, 9, 13, 14, 15, 132, 133, 136, 138, 140, 141, 142, 144, 148] rfl) (fun _ h => Own.pickT (hs := [_, _, _]) (hs' := [_, _, _]) h [1, 0, 2] rfl (by decide))
             ·
              refine Ll.slice (xs := [.tmp 144]) (vs := [i6_ ((k : Int))]) Base.elem25 rfl rfl rfl rfl rfl rfl (by decide) rfl fun p145_5 hp145_5 => ?_
              refine Ll.nil (Lv.joint (fun _ h => h.tail.tail.tail) ?_)
              exact Lv.to (H26__5 ⟨p136, cap136, cur136, p141, p145_5⟩ ⟨by simpa using hcp136, hlp136, by simpa using (by simpa using htp136)⟩) (Sub.sel [3, 4, 5, 6, 7, 8, 9, 13, 14, 15, 132, 133, 136, 137, 140, 141, 142, 145, 148] rfl) (fun _ h => Own.pickT (hs := [_, _, _]) (hs' := [_, _, _]) h [1, 2, 0] rfl (by decide))
            refine Lv.share (σ := Nat × Nat × Array Value × Nat) lawFnSecondWins_o26_10x (fun ⟨p136, cap136, cur136, p145⟩ => (cur136.size = cap136 * 1 ∧ (xs21).length ≤ cap136 ∧ cur136.toList.take (xs21).length = ints xs21)) (fun ⟨p136, cap136, cur136, p145⟩ => [(3, pt_ p3), (4, v21), (5, pt_ p5), (6, u21), (7, i6_ r21), (8, bo_ (secB a21 xs21 b21 ys21 r21)), (9, bo_ (allW (secF a21 xs21 b21 ys21 r21) a21.n.toNat b21.n.toNat && allW (secG a21 xs21 b21 ys21 r21) k a21.n.toNat)), (13, i6_ ((k : Int))), (14, bo_ (someW (secG a21 xs21 b21 ys21 r21) k l)), (15, i6_ ((l : Int))), (132, bo_ false), (133, vS a21), (136, sl_ p136 (((xs21).length)) cap136), (137, i6_ ((l : Int))), (140, vS b21), (142, u21), (145, sl_ p145 1 1), (148, i6_ (r21 - (1 : Int)))]) (fun ⟨p136, cap136, cur136, p145⟩ => Own w.heap.size w (bk_ p136 cur136 3 :: bk_ p145 #[i6_ ((k : Int))] 3 :: bk_ p5 #[i6_ b21.n, str b21.set, str b21.rel] 24 :: bk_ p3 #[i6_ a21.n, str a21.set, str a21.rel] 24 :: (new21 ++ ([])))) ?_ fun H26__9 => ?_
            ·
             rintro ⟨p136, cap136, cur136, p145⟩ ⟨hcp136, hlp136, htp136⟩
             dsimp only
             refine Lv.alt rfl ?_ (Lv.loud rfl ?_)
             ·
              refine Ll.slice (xs := [.tmp 137]) (vs := [i6_ ((l : Int))]) Base.elem25 rfl rfl rfl rfl rfl rfl (by decide) rfl fun p138_2 hp138_2 => ?_
              refine Ll.nil (Lv.joint (fun _ h => h.tail.tail.tail) ?_)
              exact Lv.to (H26__4 ⟨p136, cap136, cur136, p138_2, p145⟩ ⟨by simpa using hcp136, hlp136, by simpa using (by simpa using htp136)⟩) (Sub.sel [3, 4, 5, 6, 7, 8, 9, 13, 14, 15, 132, 133, 136, 138, 140, 142, 145, 148] rfl) (fun _ h => Own.pickT (hs := [_, _, _]) (hs' := [_, _, _]) h [1, 0, 2] rfl (by decide))
             ·
              refine Ll.slice (xs := []) (vs := []) Base.elem25 rfl rfl rfl rfl rfl rfl (by decide) rfl fun p141_4 hp141_4 => ?_
              refine Ll.nil (Lv.joint (fun _ h => h.tail.tail.tail) ?_)
              exact Lv.to (H26__5 ⟨p136, cap136, cur136, p141_4, p145⟩ ⟨by simpa using hcp136, hlp136, by simpa using (by simpa using htp136)⟩) (Sub.sel [3, 4, 5, 6, 7, 8, 9, 13, 14, 15, 132, 133, 136, 137, 140, 141, 142, 145, 148] rfl) (fun _ h => Own.pickT (hs := [_, _, _]) (hs' := [_, _, _]) h [1, 0, 2] rfl (by decide))
            refine Lv.share (σ := Nat × Nat × Nat) lawFnSecondWins_o26_17x (fun ⟨p134, p138, p141⟩ => True) (fun ⟨p134, p138, p141⟩ => [(3, pt_ p3), (4, v21), (5, pt_ p5), (6, u21), (7, i6_ r21), (8, bo_ (secB a21 xs21 b21 ys21 r21)), (9, bo_ (allW (secF a21 xs21 b21 ys21 r21) a21.n.toNat b21.n.toNat && allW (secG a21 xs21 b21 ys21 r21) k a21.n.toNat)), (13, i6_ ((k : Int))), (14, bo_ (someW (secG a21 xs21 b21 ys21 r21) k l)), (15, i6_ ((l : Int))), (132, bo_ false), (133, vS a21), (134, sl_ p134 0 0), (135, v21), (138, sl_ p138 1 1), (140, vS b21), (141, sl_ p141 0 0), (142, u21), (144, i6_ ((k : Int))), (148, i6_ (r21 - (1 : Int)))]) (fun ⟨p134, p138, p141⟩ => Own w.heap.size w (bk_ p134 #[] 3 :: bk_ p138 #[i6_ ((l : Int))] 3 :: bk_ p141 #[] 3 :: bk_ p5 #[i6_ b21.n, str b21.set, str b21.rel] 24 :: bk_ p3 #[i6_ a21.n, str a21.set, str a21.rel] 24 :: (new21 ++ ([])))) ?_ fun H26__10 => ?_
            ·
             rintro ⟨p134, p138, p141⟩ -
             dsimp only
             refine Lv.alt rfl ?_ (Lv.loud rfl ?_)
             ·
              refine Ll.appendInts (xs := []) (ys := xs21) Base.elem25 0 rfl rfl rfl rfl rfl rfl rfl rfl (by decide) rfl (fun w1 hw1 => (hIv21 _ (Own.dropR (Own.drop (f := [_, _, _, _, _]) hw1)))) ((xs21).length) (by first | (simp; done) | (simp; omega)) (by first | (simp; done) | (simp; omega) | omega) fun p136_1 cap136_1 cur136_1 hp136_1 hcp136_1 hlp136_1 htp136_1 => ?_
              show Ll _ _ (Own _ _ (_ :: _ :: _ :: _ :: _ :: (new21 ++ ([])))) _ _ ((136, sl_ p136_1 (((xs21).length)) cap136_1) :: _) _ _ _
              refine Ll.nil (Lv.joint (fun _ h => h.tail.tail.tail) ?_)
              exact Lv.to (H26__3 ⟨p136_1, cap136_1, cur136_1, p138, p141⟩ ⟨by simpa using hcp136_1, hlp136_1, by simpa using (by simpa using htp136_1)⟩) (Sub.sel [3, 4, 5, 6, 7, 8, 9, 13, 14, 15, 132, 133, 136, 138, 140, 141, 142, 144, 148] rfl) (fun _ h => h)
             ·
              refine Ll.slice (xs := [.tmp 144]) (vs := [i6_ ((k : Int))]) Base.elem25 rfl rfl rfl rfl rfl rfl (by decide) rfl fun p145_6 hp145_6 => ?_
              refine Ll.nil (Lv.joint (fun _ h => h.tail.tail.tail.tail) ?_)
              exact Lv.to (H26__6 ⟨p134, p138, p141, p145_6⟩ trivial) (Sub.sel [3, 4, 5, 6, 7, 8, 9, 13, 14, 15, 132, 133, 134, 135, 138, 140, 141, 142, 145, 148] rfl) (fun _ h => Own.pickT (hs := [_, _, _, _]) (hs' := [_, _, _, _]) h [1, 2, 3, 0] rfl (by decide))
            refine Lv.share (σ := Nat × Nat × Nat) lawFnSecondWins_o26_8x (fun ⟨p134, p138, p145⟩ => True) (fun ⟨p134, p138, p145⟩ => [(3, pt_ p3), (4, v21), (5, pt_ p5), (6, u21), (7, i6_ r21), (8, bo_ (secB a21 xs21 b21 ys21 r21)), (9, bo_ (allW (secF a21 xs21 b21 ys21 r21) a21.n.toNat b21.n.toNat && allW (secG a21 xs21 b21 ys21 r21) k a21.n.toNat)), (13, i6_ ((k : Int))), (14, bo_ (someW (secG a21 xs21 b21 ys21 r21) k l)), (15, i6_ ((l : Int))), (132, bo_ false), (133, vS a21), (134, sl_ p134 0 0), (135, v21), (138, sl_ p138 1 1), (140, vS b21), (142, u21), (145, sl_ p145 1 1), (148, i6_ (r21 - (1 : Int)))]) (fun ⟨p134, p138, p145⟩ => Own w.heap.size w (bk_ p134 #[] 3 :: bk_ p138 #[i6_ ((l : Int))] 3 :: bk_ p145 #[i6_ ((k : Int))] 3 :: bk_ p5 #[i6_ b21.n, str b21.set, str b21.rel] 24 :: bk_ p3 #[i6_ a21.n, str a21.set, str a21.rel] 24 :: (new21 ++ ([])))) ?_ fun H26__11 => ?_
            ·
             rintro ⟨p134, p138, p145⟩ -
             dsimp only
             refine Lv.alt rfl ?_ (Lv.loud rfl ?_)
             ·
              refine Ll.appendInts (xs := []) (ys := xs21) Base.elem25 0 rfl rfl rfl rfl rfl rfl rfl rfl (by decide) rfl (fun w1 hw1 => (hIv21 _ (Own.dropR (Own.drop (f := [_, _, _, _, _]) hw1)))) ((xs21).length) (by first | (simp; done) | (simp; omega)) (by first | (simp; done) | (simp; omega) | omega) fun p136_2 cap136_2 cur136_2 hp136_2 hcp136_2 hlp136_2 htp136_2 => ?_
              show Ll _ _ (Own _ _ (_ :: _ :: _ :: _ :: _ :: (new21 ++ ([])))) _ _ ((136, sl_ p136_2 (((xs21).length)) cap136_2) :: _) _ _ _
              refine Ll.nil (Lv.joint (fun _ h => h.tail.tail.tail) ?_)
              exact Lv.to (H26__4 ⟨p136_2, cap136_2, cur136_2, p138, p145⟩ ⟨by simpa using hcp136_2, hlp136_2, by simpa using (by simpa using htp136_2)⟩) (Sub.sel [3, 4, 5, 6, 7, 8, 9, 13, 14, 15, 132, 133, 136, 138, 140, 142, 145, 148] rfl) (fun _ h => h)
             ·
              refine Ll.slice (xs := []) (vs := []) Base.elem25 rfl rfl rfl rfl rfl rfl (by decide) rfl fun p141_5 hp141_5 => ?_
              refine Ll.nil (Lv.joint (fun _ h => h.tail.tail.tail.tail) ?_)
              exact Lv.to (H26__6 ⟨p134, p138, p141_5, p145⟩ trivial) (Sub.sel [3, 4, 5, 6, 7, 8, 9, 13, 14, 15, 132, 133, 134, 135, 138, 140, 141, 142, 145, 148] rfl) (fun _ h => Own.pickT (hs := [_, _, _, _]) (hs' := [_, _, _, _]) h [1, 2, 0, 3] rfl (by decide))
            refine Lv.share (σ := Nat × Nat × Nat) lawFnSecondWins_o26_3x (fun ⟨p134, p141, p145⟩ => True) (fun ⟨p134, p141, p145⟩ => [(3, pt_ p3), (4, v21), (5, pt_ p5), (6, u21), (7, i6_ r21), (8, bo_ (secB a21 xs21 b21 ys21 r21)), (9, bo_ (allW (secF a21 xs21 b21 ys21 r21) a21.n.toNat b21.n.toNat && allW (secG a21 xs21 b21 ys21 r21) k a21.n.toNat)), (13, i6_ ((k : Int))), (14, bo_ (someW (secG a21 xs21 b21 ys21 r21) k l)), (15, i6_ ((l : Int))), (132, bo_ false), (133, vS a21), (134, sl_ p134 0 0), (135, v21), (137, i6_ ((l : Int))), (140, vS b21), (141, sl_ p141 0 0), (142, u21), (145, sl_ p145 1 1), (148, i6_ (r21 - (1 : Int)))]) (fun ⟨p134, p141, p145⟩ => Own w.heap.size w (bk_ p134 #[] 3 :: bk_ p141 #[] 3 :: bk_ p145 #[i6_ ((k : Int))] 3 :: bk_ p5 #[i6_ b21.n, str b21.set, str b21.rel] 24 :: bk_ p3 #[i6_ a21.n, str a21.set, str a21.rel] 24 :: (new21 ++ ([])))) ?_ fun H26__12 => ?_
            ·
             rintro ⟨p134, p141, p145⟩ -
             dsimp only
             refine Lv.alt rfl ?_ (Lv.loud rfl ?_)
             ·
              refine Ll.appendInts (xs := []) (ys := xs21) Base.elem25 0 rfl rfl rfl rfl rfl rfl rfl rfl (by decide) rfl (fun w1 hw1 => (hIv21 _ (Own.dropR (Own.drop (f := [_, _, _, _, _]) hw1)))) ((xs21).length) (by first | (simp; done) | (simp; omega)) (by first | (simp; done) | (simp; omega) | omega) fun p136_3 cap136_3 cur136_3 hp136_3 hcp136_3 hlp136_3 htp136_3 => ?_
              show Ll _ _ (Own _ _ (_ :: _ :: _ :: _ :: _ :: (new21 ++ ([])))) _ _ ((136, sl_ p136_3 (((xs21).length)) cap136_3) :: _) _ _ _
              refine Ll.nil (Lv.joint (fun _ h => h.tail.tail.tail) ?_)
              exact Lv.to (H26__5 ⟨p136_3, cap136_3, cur136_3, p141, p145⟩ ⟨by simpa using hcp136_3, hlp136_3, by simpa using (by simpa using htp136_3)⟩) (Sub.sel [3, 4, 5, 6, 7, 8, 9, 13, 14, 15, 132, 133, 136, 137, 140, 141, 142, 145, 148] rfl) (fun _ h => h)
             ·
              refine Ll.slice (xs := [.tmp 137]) (vs := [i6_ ((l : Int))]) Base.elem25 rfl rfl rfl rfl rfl rfl (by decide) rfl fun p138_3 hp138_3 => ?_
              refine Ll.nil (Lv.joint (fun _ h => h.tail.tail.tail.tail) ?_)
              exact Lv.to (H26__6 ⟨p134, p138_3, p141, p145⟩ trivial) (Sub.sel [3, 4, 5, 6, 7, 8, 9, 13, 14, 15, 132, 133, 134, 135, 138, 140, 141, 142, 145, 148] rfl) (fun _ h => Own.pickT (hs := [_, _, _, _]) (hs' := [_, _, _, _]) h [1, 0, 2, 3] rfl (by decide))
            refine Lv.share (σ := Nat × Nat × Nat) lawFnSecondWins_o26x (fun ⟨p138, p141, p145⟩ => True) (fun ⟨p138, p141, p145⟩ => [(3, pt_ p3), (4, v21), (5, pt_ p5), (6, u21), (7, i6_ r21), (8, bo_ (secB a21 xs21 b21 ys21 r21)), (9, bo_ (allW (secF a21 xs21 b21 ys21 r21) a21.n.toNat b21.n.toNat && allW (secG a21 xs21 b21 ys21 r21) k a21.n.toNat)), (13, i6_ ((k : Int))), (14, bo_ (someW (secG a21 xs21 b21 ys21 r21) k l)), (15, i6_ ((l : Int))), (132, bo_ false), (133, vS a21), (135, v21), (138, sl_ p138 1 1), (140, vS b21), (141, sl_ p141 0 0), (142, u21), (145, sl_ p145 1 1), (148, i6_ (r21 - (1 : Int)))]) (fun ⟨p138, p141, p145⟩ => Own w.heap.size w (bk_ p138 #[i6_ ((l : Int))] 3 :: bk_ p141 #[] 3 :: bk_ p145 #[i6_ ((k : Int))] 3 :: bk_ p5 #[i6_ b21.n, str b21.set, str b21.rel] 24 :: bk_ p3 #[i6_ a21.n, str a21.set, str a21.rel] 24 :: (new21 ++ ([])))) ?_ fun H26__13 => ?_
            ·
             rintro ⟨p138, p141, p145⟩ -
             dsimp only
             refine Lv.loud rfl ?_
             refine Ll.slice (xs := []) (vs := []) Base.elem25 rfl rfl rfl rfl rfl rfl (by decide) rfl fun p134 hp134 => ?_
             refine Ll.nil (Lv.joint (fun _ h => h.tail.tail.tail.tail) ?_)
             refine Lv.loud rfl ?_
             refine Ll.appendInts (xs := []) (ys := xs21) Base.elem25 0 rfl rfl rfl rfl rfl rfl rfl rfl (by decide) rfl (fun w1 hw1 => (hIv21 _ (Own.dropR (Own.drop (f := [_, _, _, _, _, _]) hw1)))) ((xs21).length) (by first | (simp; done) | (simp; omega)) (by first | (simp; done) | (simp; omega) | omega) fun p136_4 cap136_4 cur136_4 hp136_4 hcp136_4 hlp136_4 htp136_4 => ?_
             show Ll _ _ (Own _ _ (_ :: _ :: _ :: _ :: _ :: _ :: (new21 ++ ([])))) _ _ ((136, sl_ p136_4 (((xs21).length)) cap136_4) :: _) _ _ _
             refine Ll.nil (Lv.joint (fun _ h => h.tail.tail.tail.tail) ?_)
             refine Lv.loud rfl ?_
             refine Ll.appendInts (xs := xs21) (ys := [(l : Int)]) Base.elem25 0 rfl rfl rfl rfl rfl rfl rfl hcp136_4 hlp136_4 (by simpa using htp136_4) (fun w1 hw1 => (Own.row hw1 (i := 1) rfl (n := 1) (cap := 1) (vs := ints [(l : Int)]) rfl rfl (by decide))) ((xs21 ++ ([(l : Int)])).length) (by first | (simp; done) | (simp; omega)) (by first | (simp; done) | (simp; omega) | omega) fun p139_6 cap139_6 cur139_6 hp139_6 hcp139_6 hlp139_6 htp139_6 => ?_
             show Ll _ _ (Own _ _ (_ :: _ :: _ :: _ :: _ :: _ :: (new21 ++ ([])))) _ _ ((139, sl_ p139_6 (((xs21 ++ ([(l : Int)])).length)) cap139_6) :: _) _ _ _
             refine Ll.nil (Lv.joint (fun _ h => h.tail.tail.tail.tail) ?_)
             refine Lv.loud rfl ?_
             refine Ll.appendInts (xs := []) (ys := ys21) Base.elem25 2 rfl rfl rfl rfl rfl rfl rfl rfl (by decide) rfl (fun w1 hw1 => (hIu21 _ (Own.dropR (Own.drop (f := [_, _, _, _, _, _]) hw1)))) ((ys21).length) (by first | (simp; done) | (simp; omega)) (by first | (simp; done) | (simp; omega) | omega) fun p143_6 cap143_6 cur143_6 hp143_6 hcp143_6 hlp143_6 htp143_6 => ?_
             show Ll _ _ (Own _ _ (_ :: _ :: _ :: _ :: _ :: _ :: (new21 ++ ([])))) _ _ ((143, sl_ p143_6 (((ys21).length)) cap143_6) :: _) _ _ _
             refine Ll.nil (Lv.joint (fun _ h => h.tail.tail.tail.tail) ?_)
             refine Lv.loud rfl ?_
             refine Ll.appendInts (xs := ys21) (ys := [(k : Int)]) Base.elem25 2 rfl rfl rfl rfl rfl rfl rfl hcp143_6 hlp143_6 (by simpa using htp143_6) (fun w1 hw1 => (Own.row hw1 (i := 3) rfl (n := 1) (cap := 1) (vs := ints [(k : Int)]) rfl rfl (by decide))) ((ys21 ++ ([(k : Int)])).length) (by first | (simp; done) | (simp; omega)) (by first | (simp; done) | (simp; omega) | omega) fun p146_6 cap146_6 cur146_6 hp146_6 hcp146_6 hlp146_6 htp146_6 => ?_
             show Ll _ _ (Own _ _ (_ :: _ :: _ :: _ :: _ :: _ :: (new21 ++ ([])))) _ _ ((146, sl_ p146_6 (((ys21 ++ ([(k : Int)])).length)) cap146_6) :: _) _ _ _
             refine Ll.nil (Lv.joint (fun _ h => h.tail.tail.tail.tail) ?_)
             refine Lv.loud rfl ?_
             refine Ll.op (v := bo_ (secB a21 (xs21 ++ ([(l : Int)])) b21 (ys21 ++ ([(k : Int)])) (r21 - (1 : Int)))) rfl rfl rfl (OpQ.call rfl Tryd.call26 rfl Own.stable (fun w1 hw1 => iWins_ok a21 b21 (xs21 ++ ([(l : Int)])) (ys21 ++ ([(k : Int)])) (sl_ p139_6 (((xs21 ++ ([(l : Int)])).length)) cap139_6) (sl_ p146_6 (((ys21 ++ ([(k : Int)])).length)) cap146_6) w1 hsa21 hsb21 (Own.row hw1 (i := 0) rfl (by simpa using htp139_6) (by simp) hlp139_6) (Own.row hw1 (i := 2) rfl (by simpa using htp146_6) (by simp) hlp146_6) (by first | (simp; done) | (simp; omega) | omega) (by first | (simp; done) | (simp; omega) | omega) (r21 - (1 : Int)))) ?_
             refine Ll.nil (Lv.joint (fun _ h => h.tail.tail.tail.tail) ?_)
             refine Lv.run 2 rfl (fun _ h => h.tail.tail.tail.tail) ?_
             refine Lv.nil ?_
             refine Kt.sel [3, 4, 5, 6, 7, 8, 9, 13, 14, 15] [_, _, _, _, _, _, _, _, _, _] rfl ?_
             refine Wk.regionQ ?_
             refine Lq.run 1 rfl ?_
             refine Lq.op rfl rfl rfl (OpQ.add rfl rfl rfl (by omega) (by omega)) ?_
             refine Lq.run 1 rfl ?_
             refine Lq.nil ?_
             refine Kt.again (l + 1) (by omega) (by omega) (Sub.cons rfl (Sub.cons rfl (Sub.cons rfl (Sub.cons rfl (Sub.cons rfl (Sub.cons rfl (Sub.cons rfl (Sub.cons rfl (Sub.cons (by rw [someW_succ, hg132]; rfl) (Sub.sel [15] rfl)))))))))) (fun _ h => h.tail.tail.tail.tail)
            refine Lv.share (σ := Nat × Nat) lawFnSecondWins_o26_24x (fun ⟨p134, p138⟩ => True) (fun ⟨p134, p138⟩ => [(3, pt_ p3), (4, v21), (5, pt_ p5), (6, u21), (7, i6_ r21), (8, bo_ (secB a21 xs21 b21 ys21 r21)), (9, bo_ (allW (secF a21 xs21 b21 ys21 r21) a21.n.toNat b21.n.toNat && allW (secG a21 xs21 b21 ys21 r21) k a21.n.toNat)), (13, i6_ ((k : Int))), (14, bo_ (someW (secG a21 xs21 b21 ys21 r21) k l)), (15, i6_ ((l : Int))), (132, bo_ false), (133, vS a21), (134, sl_ p134 0 0), (135, v21), (138, sl_ p138 1 1), (140, vS b21), (142, u21), (144, i6_ ((k : Int))), (148, i6_ (r21 - (1 : Int)))]) (fun ⟨p134, p138⟩ => Own w.heap.size w (bk_ p134 #[] 3 :: bk_ p138 #[i6_ ((l : Int))] 3 :: bk_ p5 #[i6_ b21.n, str b21.set, str b21.rel] 24 :: bk_ p3 #[i6_ a21.n, str a21.set, str a21.rel] 24 :: (new21 ++ ([])))) ?_ fun H26__14 => ?_
            ·
             rintro ⟨p134, p138⟩ -
             dsimp only
             refine Lv.alt rfl ?_ (Lv.alt rfl ?_ (Lv.loud rfl ?_))
             ·
              refine Ll.appendInts (xs := []) (ys := xs21) Base.elem25 0 rfl rfl rfl rfl rfl rfl rfl rfl (by decide) rfl (fun w1 hw1 => (hIv21 _ (Own.dropR (Own.drop (f := [_, _, _, _]) hw1)))) ((xs21).length) (by first | (simp; done) | (simp; omega)) (by first | (simp; done) | (simp; omega) | omega) fun p136_5 cap136_5 cur136_5 hp136_5 hcp136_5 hlp136_5 htp136_5 => ?_
              show Ll _ _ (Own _ _ (_ :: _ :: _ :: _ :: (new21 ++ ([])))) _ _ ((136, sl_ p136_5 (((xs21).length)) cap136_5) :: _) _ _ _
              refine Ll.nil (Lv.joint (fun _ h => h.tail.tail) ?_)
              exact Lv.to (H26__7 ⟨p136_5, cap136_5, cur136_5, p138⟩ ⟨by simpa using hcp136_5, hlp136_5, by simpa using (by simpa using htp136_5)⟩) (Sub.sel [3, 4, 5, 6, 7, 8, 9, 13, 14, 15, 132, 133, 136, 138, 140, 142, 144, 148] rfl) (fun _ h => h)
             ·
              refine Ll.slice (xs := []) (vs := []) Base.elem25 rfl rfl rfl rfl rfl rfl (by decide) rfl fun p141_6 hp141_6 => ?_
              refine Ll.nil (Lv.joint (fun _ h => h.tail.tail.tail) ?_)
              exact Lv.to (H26__10 ⟨p134, p138, p141_6⟩ trivial) (Sub.sel [3, 4, 5, 6, 7, 8, 9, 13, 14, 15, 132, 133, 134, 135, 138, 140, 141, 142, 144, 148] rfl) (fun _ h => Own.pickT (hs := [_, _, _]) (hs' := [_, _, _]) h [1, 2, 0] rfl (by decide))
             ·
              refine Ll.slice (xs := [.tmp 144]) (vs := [i6_ ((k : Int))]) Base.elem25 rfl rfl rfl rfl rfl rfl (by decide) rfl fun p145_7 hp145_7 => ?_
              refine Ll.nil (Lv.joint (fun _ h => h.tail.tail.tail) ?_)
              exact Lv.to (H26__11 ⟨p134, p138, p145_7⟩ trivial) (Sub.sel [3, 4, 5, 6, 7, 8, 9, 13, 14, 15, 132, 133, 134, 135, 138, 140, 142, 145, 148] rfl) (fun _ h => Own.pickT (hs := [_, _, _]) (hs' := [_, _, _]) h [1, 2, 0] rfl (by decide))
            refine Lv.share (σ := Nat × Nat) lawFnSecondWins_o26_20x (fun ⟨p134, p141⟩ => True) (fun ⟨p134, p141⟩ => [(3, pt_ p3), (4, v21), (5, pt_ p5), (6, u21), (7, i6_ r21), (8, bo_ (secB a21 xs21 b21 ys21 r21)), (9, bo_ (allW (secF a21 xs21 b21 ys21 r21) a21.n.toNat b21.n.toNat && allW (secG a21 xs21 b21 ys21 r21) k a21.n.toNat)), (13, i6_ ((k : Int))), (14, bo_ (someW (secG a21 xs21 b21 ys21 r21) k l)), (15, i6_ ((l : Int))), (132, bo_ false), (133, vS a21), (134, sl_ p134 0 0), (135, v21), (137, i6_ ((l : Int))), (140, vS b21), (141, sl_ p141 0 0), (142, u21), (144, i6_ ((k : Int))), (148, i6_ (r21 - (1 : Int)))]) (fun ⟨p134, p141⟩ => Own w.heap.size w (bk_ p134 #[] 3 :: bk_ p141 #[] 3 :: bk_ p5 #[i6_ b21.n, str b21.set, str b21.rel] 24 :: bk_ p3 #[i6_ a21.n, str a21.set, str a21.rel] 24 :: (new21 ++ ([])))) ?_ fun H26__15 => ?_
            ·
             rintro ⟨p134, p141⟩ -
             dsimp only
             refine Lv.alt rfl ?_ (Lv.alt rfl ?_ (Lv.loud rfl ?_))
             ·
              refine Ll.appendInts (xs := []) (ys := xs21) Base.elem25 0 rfl rfl rfl rfl rfl rfl rfl rfl (by decide) rfl (fun w1 hw1 => (hIv21 _ (Own.dropR (Own.drop (f := [_, _, _, _]) hw1)))) ((xs21).length) (by first | (simp; done) | (simp; omega)) (by first | (simp; done) | (simp; omega) | omega) fun p136_6 cap136_6 cur136_6 hp136_6 hcp136_6 hlp136_6 htp136_6 => ?_
              show Ll _ _ (Own _ _ (_ :: _ :: _ :: _ :: (new21 ++ ([])))) _ _ ((136, sl_ p136_6 (((xs21).length)) cap136_6) :: _) _ _ _
              refine Ll.nil (Lv.joint (fun _ h => h.tail.tail) ?_)
              exact Lv.to (H26__8 ⟨p136_6, cap136_6, cur136_6, p141⟩ ⟨by simpa using hcp136_6, hlp136_6, by simpa using (by simpa using htp136_6)⟩) (Sub.sel [3, 4, 5, 6, 7, 8, 9, 13, 14, 15, 132, 133, 136, 137, 140, 141, 142, 144, 148] rfl) (fun _ h => h)
             ·
              refine Ll.slice (xs := [.tmp 137]) (vs := [i6_ ((l : Int))]) Base.elem25 rfl rfl rfl rfl rfl rfl (by decide) rfl fun p138_4 hp138_4 => ?_
              refine Ll.nil (Lv.joint (fun _ h => h.tail.tail.tail) ?_)
              exact Lv.to (H26__10 ⟨p134, p138_4, p141⟩ trivial) (Sub.sel [3, 4, 5, 6, 7, 8, 9, 13, 14, 15, 132, 133, 134, 135, 138, 140, 141, 142, 144, 148] rfl) (fun _ h => Own.pickT (hs := [_, _, _]) (hs' := [_, _, _]) h [1, 0, 2] rfl (by decide))
             ·
              refine Ll.slice (xs := [.tmp 144]) (vs := [i6_ ((k : Int))]) Base.elem25 rfl rfl rfl rfl rfl rfl (by decide) rfl fun p145_8 hp145_8 => ?_
              refine Ll.nil (Lv.joint (fun _ h => h.tail.tail.tail) ?_)
              exact Lv.to (H26__12 ⟨p134, p141, p145_8⟩ trivial) (Sub.sel [3, 4, 5, 6, 7, 8, 9, 13, 14, 15, 132, 133, 134, 135, 137, 140, 141, 142, 145, 148] rfl) (fun _ h => Own.pickT (hs := [_, _, _]) (hs' := [_, _, _]) h [1, 2, 0] rfl (by decide))
            refine Lv.share (σ := Nat × Nat) lawFnSecondWins_o26_11x (fun ⟨p134, p145⟩ => True) (fun ⟨p134, p145⟩ => [(3, pt_ p3), (4, v21), (5, pt_ p5), (6, u21), (7, i6_ r21), (8, bo_ (secB a21 xs21 b21 ys21 r21)), (9, bo_ (allW (secF a21 xs21 b21 ys21 r21) a21.n.toNat b21.n.toNat && allW (secG a21 xs21 b21 ys21 r21) k a21.n.toNat)), (13, i6_ ((k : Int))), (14, bo_ (someW (secG a21 xs21 b21 ys21 r21) k l)), (15, i6_ ((l : Int))), (132, bo_ false), (133, vS a21), (134, sl_ p134 0 0), (135, v21), (137, i6_ ((l : Int))), (140, vS b21), (142, u21), (145, sl_ p145 1 1), (148, i6_ (r21 - (1 : Int)))]) (fun ⟨p134, p145⟩ => Own w.heap.size w (bk_ p134 #[] 3 :: bk_ p145 #[i6_ ((k : Int))] 3 :: bk_ p5 #[i6_ b21.n, str b21.set, str b21.rel] 24 :: bk_ p3 #[i6_ a21.n, str a21.set, str a21.rel] 24 :: (new21 ++ ([])))) ?_ fun H26__16 => ?_
            ·
             rintro ⟨p134, p145⟩ -
             dsimp only
             refine Lv.alt rfl ?_ (Lv.alt rfl ?_ (Lv.loud rfl ?_))
             ·
              refine Ll.appendInts (xs := []) (ys := xs21) Base.elem25 0 rfl rfl rfl rfl rfl rfl rfl rfl (by decide) rfl (fun w1 hw1 => (hIv21 _ (Own.dropR (Own.drop (f := [_, _, _, _]) hw1)))) ((xs21).length) (by first | (simp; done) | (simp; omega)) (by first | (simp; done) | (simp; omega) | omega) fun p136_7 cap136_7 cur136_7 hp136_7 hcp136_7 hlp136_7 htp136_7 => ?_
              show Ll _ _ (Own _ _ (_ :: _ :: _ :: _ :: (new21 ++ ([])))) _ _ ((136, sl_ p136_7 (((xs21).length)) cap136_7) :: _) _ _ _
              refine Ll.nil (Lv.joint (fun _ h => h.tail.tail) ?_)
              exact Lv.to (H26__9 ⟨p136_7, cap136_7, cur136_7, p145⟩ ⟨by simpa using hcp136_7, hlp136_7, by simpa using (by simpa using htp136_7)⟩) (Sub.sel [3, 4, 5, 6, 7, 8, 9, 13, 14, 15, 132, 133, 136, 137, 140, 142, 145, 148] rfl) (fun _ h => h)
             ·
              refine Ll.slice (xs := [.tmp 137]) (vs := [i6_ ((l : Int))]) Base.elem25 rfl rfl rfl rfl rfl rfl (by decide) rfl fun p138_5 hp138_5 => ?_
              refine Ll.nil (Lv.joint (fun _ h => h.tail.tail.tail) ?_)
              exact Lv.to (H26__11 ⟨p134, p138_5, p145⟩ trivial) (Sub.sel [3, 4, 5, 6, 7, 8, 9, 13, 14, 15, 132, 133, 134, 135, 138, 140, 142, 145, 148] rfl) (fun _ h => Own.pickT (hs := [_, _, _]) (hs' := [_, _, _]) h [1, 0, 2] rfl (by decide))
             ·
              refine Ll.slice (xs := []) (vs := []) Base.elem25 rfl rfl rfl rfl rfl rfl (by decide) rfl fun p141_7 hp141_7 => ?_
              refine Ll.nil (Lv.joint (fun _ h => h.tail.tail.tail) ?_)
              exact Lv.to (H26__12 ⟨p134, p141_7, p145⟩ trivial) (Sub.sel [3, 4, 5, 6, 7, 8, 9, 13, 14, 15, 132, 133, 134, 135, 137, 140, 141, 142, 145, 148] rfl) (fun _ h => Own.pickT (hs := [_, _, _]) (hs' := [_, _, _]) h [1, 0, 2] rfl (by decide))
            refine Lv.share (σ := Nat × Nat) lawFnSecondWins_o26_18x (fun ⟨p138, p141⟩ => True) (fun ⟨p138, p141⟩ => [(3, pt_ p3), (4, v21), (5, pt_ p5), (6, u21), (7, i6_ r21), (8, bo_ (secB a21 xs21 b21 ys21 r21)), (9, bo_ (allW (secF a21 xs21 b21 ys21 r21) a21.n.toNat b21.n.toNat && allW (secG a21 xs21 b21 ys21 r21) k a21.n.toNat)), (13, i6_ ((k : Int))), (14, bo_ (someW (secG a21 xs21 b21 ys21 r21) k l)), (15, i6_ ((l : Int))), (132, bo_ false), (133, vS a21), (135, v21), (138, sl_ p138 1 1), (140, vS b21), (141, sl_ p141 0 0), (142, u21), (144, i6_ ((k : Int))), (148, i6_ (r21 - (1 : Int)))]) (fun ⟨p138, p141⟩ => Own w.heap.size w (bk_ p138 #[i6_ ((l : Int))] 3 :: bk_ p141 #[] 3 :: bk_ p5 #[i6_ b21.n, str b21.set, str b21.rel] 24 :: bk_ p3 #[i6_ a21.n, str a21.set, str a21.rel] 24 :: (new21 ++ ([])))) ?_ fun H26__17 => ?_
            ·
             rintro ⟨p138, p141⟩ -
             dsimp only
             refine Lv.alt rfl ?_ (Lv.loud rfl ?_)
             ·
              refine Ll.slice (xs := []) (vs := []) Base.elem25 rfl rfl rfl rfl rfl rfl (by decide) rfl fun p134_1 hp134_1 => ?_
              refine Ll.nil (Lv.joint (fun _ h => h.tail.tail.tail) ?_)
              exact Lv.to (H26__10 ⟨p134_1, p138, p141⟩ trivial) (Sub.sel [3, 4, 5, 6, 7, 8, 9, 13, 14, 15, 132, 133, 134, 135, 138, 140, 141, 142, 144, 148] rfl) (fun _ h => h)
             ·
              refine Ll.slice (xs := [.tmp 144]) (vs := [i6_ ((k : Int))]) Base.elem25 rfl rfl rfl rfl rfl rfl (by decide) rfl fun p145_9 hp145_9 => ?_
              refine Ll.nil (Lv.joint (fun _ h => h.tail.tail.tail) ?_)
              exact Lv.to (H26__13 ⟨p138, p141, p145_9⟩ trivial) (Sub.sel [3, 4, 5, 6, 7, 8, 9, 13, 14, 15, 132, 133, 135, 138, 140, 141, 142, 145, 148] rfl) (fun _ h => Own.pickT (hs := [_, _, _]) (hs' := [_, _, _]) h [1, 2, 0] rfl (by decide))
            refine Lv.share (σ := Nat × Nat) lawFnSecondWins_o26_9x (fun ⟨p138, p145⟩ => True) (fun ⟨p138, p145⟩ => [(3, pt_ p3), (4, v21), (5, pt_ p5), (6, u21), (7, i6_ r21), (8, bo_ (secB a21 xs21 b21 ys21 r21)), (9, bo_ (allW (secF a21 xs21 b21 ys21 r21) a21.n.toNat b21.n.toNat && allW (secG a21 xs21 b21 ys21 r21) k a21.n.toNat)), (13, i6_ ((k : Int))), (14, bo_ (someW (secG a21 xs21 b21 ys21 r21) k l)), (15, i6_ ((l : Int))), (132, bo_ false), (133, vS a21), (135, v21), (138, sl_ p138 1 1), (140, vS b21), (142, u21), (145, sl_ p145 1 1), (148, i6_ (r21 - (1 : Int)))]) (fun ⟨p138, p145⟩ => Own w.heap.size w (bk_ p138 #[i6_ ((l : Int))] 3 :: bk_ p145 #[i6_ ((k : Int))] 3 :: bk_ p5 #[i6_ b21.n, str b21.set, str b21.rel] 24 :: bk_ p3 #[i6_ a21.n, str a21.set, str a21.rel] 24 :: (new21 ++ ([])))) ?_ fun H26__18 => ?_
            ·
             rintro ⟨p138, p145⟩ -
             dsimp only
             refine Lv.alt rfl ?_ (Lv.loud rfl ?_)
             ·
              refine Ll.slice (xs := []) (vs := []) Base.elem25 rfl rfl rfl rfl rfl rfl (by decide) rfl fun p134_2 hp134_2 => ?_
              refine Ll.nil (Lv.joint (fun _ h => h.tail.tail.tail) ?_)
              exact Lv.to (H26__11 ⟨p134_2, p138, p145⟩ trivial) (Sub.sel [3, 4, 5, 6, 7, 8, 9, 13, 14, 15, 132, 133, 134, 135, 138, 140, 142, 145, 148] rfl) (fun _ h => h)
             ·
              refine Ll.slice (xs := []) (vs := []) Base.elem25 rfl rfl rfl rfl rfl rfl (by decide) rfl fun p141_8 hp141_8 => ?_
              refine Ll.nil (Lv.joint (fun _ h => h.tail.tail.tail) ?_)
              exact Lv.to (H26__13 ⟨p138, p141_8, p145⟩ trivial) (Sub.sel [3, 4, 5, 6, 7, 8, 9, 13, 14, 15, 132, 133, 135, 138, 140, 141, 142, 145, 148] rfl) (fun _ h => Own.pickT (hs := [_, _, _]) (hs' := [_, _, _]) h [1, 0, 2] rfl (by decide))
            refine Lv.share (σ := Nat × Nat) lawFnSecondWins_o26_4x (fun ⟨p141, p145⟩ => True) (fun ⟨p141, p145⟩ => [(3, pt_ p3), (4, v21), (5, pt_ p5), (6, u21), (7, i6_ r21), (8, bo_ (secB a21 xs21 b21 ys21 r21)), (9, bo_ (allW (secF a21 xs21 b21 ys21 r21) a21.n.toNat b21.n.toNat && allW (secG a21 xs21 b21 ys21 r21) k a21.n.toNat)), (13, i6_ ((k : Int))), (14, bo_ (someW (secG a21 xs21 b21 ys21 r21) k l)), (15, i6_ ((l : Int))), (132, bo_ false), (133, vS a21), (135, v21), (137, i6_ ((l : Int))), (140, vS b21), (141, sl_ p141 0 0), (142, u21), (145, sl_ p145 1 1), (148, i6_ (r21 - (1 : Int)))]) (fun ⟨p141, p145⟩ => Own w.heap.size w (bk_ p141 #[] 3 :: bk_ p145 #[i6_ ((k : Int))] 3 :: bk_ p5 #[i6_ b21.n, str b21.set, str b21.rel] 24 :: bk_ p3 #[i6_ a21.n, str a21.set, str a21.rel] 24 :: (new21 ++ ([])))) ?_ fun H26__19 => ?_
            ·
             rintro ⟨p141, p145⟩ -
             dsimp only
             refine Lv.alt rfl ?_ (Lv.loud rfl ?_)
             ·
              refine Ll.slice (xs := []) (vs := []) Base.elem25 rfl rfl rfl rfl rfl rfl (by decide) rfl fun p134_3 hp134_3 => ?_
              refine Ll.nil (Lv.joint (fun _ h => h.tail.tail.tail) ?_)
              exact Lv.to (H26__12 ⟨p134_3, p141, p145⟩ trivial) (Sub.sel [3, 4, 5, 6, 7, 8, 9, 13, 14, 15, 132, 133, 134, 135, 137, 140, 141, 142, 145, 148] rfl) (fun _ h => h)
             ·
              refine Ll.slice (xs := [.tmp 137]) (vs := [i6_ ((l : Int))]) Base.elem25 rfl rfl rfl rfl rfl rfl (by decide) rfl fun p138_6 hp138_6 => ?_
              refine Ll.nil (Lv.joint (fun _ h => h.tail.tail.tail) ?_)
              exact Lv.to (H26__13 ⟨p138_6, p141, p145⟩ trivial) (Sub.sel [3, 4, 5, 6, 7, 8, 9, 13, 14, 15, 132, 133, 135, 138, 140, 141, 142, 145, 148] rfl) (fun _ h => h)
            refine Lv.take rfl rfl rfl rfl rfl (OpQ.loadBox (cs := #[i6_ a21.n, str a21.set, str a21.rel]) 1 rfl Tryd.isAgg24 rfl rfl Tryd.sizeOf24) (fun _ h => h) ?_
            refine Lv.run 2 rfl (fun _ h => h) ?_
            refine Lv.take rfl rfl rfl rfl rfl (OpQ.loadBox (cs := #[i6_ b21.n, str b21.set, str b21.rel]) 0 rfl Tryd.isAgg24 rfl rfl Tryd.sizeOf24) (fun _ h => h) ?_
            refine Lv.run 3 rfl (fun _ h => h) ?_
            refine Lv.take rfl rfl rfl rfl rfl (OpQ.sub rfl rfl rfl (by omega) (by omega)) (fun _ h => h) ?_
            refine Lv.alt rfl ?_ (Lv.alt rfl ?_ (Lv.alt rfl ?_ (Lv.loud rfl ?_)))
            ·
             refine Ll.slice (xs := []) (vs := []) Base.elem25 rfl rfl rfl rfl rfl rfl (by decide) rfl fun p134_4 hp134_4 => ?_
             refine Ll.nil (Lv.joint (fun _ h => h.tail) ?_)
             refine Lv.alt rfl ?_ (Lv.alt rfl ?_ (Lv.alt rfl ?_ (Lv.loud rfl ?_)))
             ·
              refine Ll.appendInts (xs := []) (ys := xs21) Base.elem25 0 rfl rfl rfl rfl rfl rfl rfl rfl (by decide) rfl (fun w1 hw1 => (hIv21 _ (Own.dropR (Own.drop (f := [_, _, _]) hw1)))) ((xs21).length) (by first | (simp; done) | (simp; omega)) (by first | (simp; done) | (simp; omega) | omega) fun p136_8 cap136_8 cur136_8 hp136_8 hcp136_8 hlp136_8 htp136_8 => ?_
              show Ll _ _ (Own _ _ (_ :: _ :: _ :: (new21 ++ ([])))) _ _ ((136, sl_ p136_8 (((xs21).length)) cap136_8) :: _) _ _ _
              refine Ll.nil (Lv.joint (fun _ h => h.tail) ?_)
              refine Lv.alt rfl ?_ (Lv.alt rfl ?_ (Lv.loud rfl ?_))
              ·
               refine Ll.slice (xs := [.tmp 137]) (vs := [i6_ ((l : Int))]) Base.elem25 rfl rfl rfl rfl rfl rfl (by decide) rfl fun p138_7 hp138_7 => ?_
               refine Ll.nil (Lv.joint (fun _ h => h.tail.tail) ?_)
               exact Lv.to (H26__7 ⟨p136_8, cap136_8, cur136_8, p138_7⟩ ⟨by simpa using hcp136_8, hlp136_8, by simpa using (by simpa using htp136_8)⟩) (Sub.sel [3, 4, 5, 6, 7, 8, 9, 13, 14, 15, 132, 133, 136, 138, 140, 142, 144, 148] rfl) (fun _ h => Own.pickT (hs := [_, _]) (hs' := [_, _]) h [1, 0] rfl (by decide))
              ·
               refine Ll.slice (xs := []) (vs := []) Base.elem25 rfl rfl rfl rfl rfl rfl (by decide) rfl fun p141_9 hp141_9 => ?_
               refine Ll.nil (Lv.joint (fun _ h => h.tail.tail) ?_)
               exact Lv.to (H26__8 ⟨p136_8, cap136_8, cur136_8, p141_9⟩ ⟨by simpa using hcp136_8, hlp136_8, by simpa using (by simpa using htp136_8)⟩) (Sub.sel [3, 4, 5, 6, 7, 8, 9, 13, 14, 15, 132, 133, 136, 137, 140, 141, 142, 144, 148] rfl) (fun _ h => Own.pickT (hs := [_, _]) (hs' := [_, _]) h [1, 0] rfl (by decide))
              ·
               refine Ll.slice (xs := [.tmp 144]) (vs := [i6_ ((k : Int))]) Base.elem25 rfl rfl rfl rfl rfl rfl (by decide) rfl fun p145_10 hp145_10 => ?_
               refine Ll.nil (Lv.joint (fun _ h => h.tail.tail) ?_)
               exact Lv.to (H26__9 ⟨p136_8, cap136_8, cur136_8, p145_10⟩ ⟨by simpa using hcp136_8, hlp136_8, by simpa using (by simpa using htp136_8)⟩) (Sub.sel [3, 4, 5, 6, 7, 8, 9, 13, 14, 15, 132, 133, 136, 137, 140, 142, 145, 148] rfl) (fun _ h => Own.pickT (hs := [_, _]) (hs' := [_, _]) h [1, 0] rfl (by decide))
             ·
              refine Ll.slice (xs := [.tmp 137]) (vs := [i6_ ((l : Int))]) Base.elem25 rfl rfl rfl rfl rfl rfl (by decide) rfl fun p138_8 hp138_8 => ?_
              refine Ll.nil (Lv.joint (fun _ h => h.tail.tail) ?_)
              exact Lv.to (H26__14 ⟨p134_4, p138_8⟩ trivial) (Sub.sel [3, 4, 5, 6, 7, 8, 9, 13, 14, 15, 132, 133, 134, 135, 138, 140, 142, 144, 148] rfl) (fun _ h => Own.pickT (hs := [_, _]) (hs' := [_, _]) h [1, 0] rfl (by decide))
             ·
              refine Ll.slice (xs := []) (vs := []) Base.elem25 rfl rfl rfl rfl rfl rfl (by decide) rfl fun p141_10 hp141_10 => ?_
              refine Ll.nil (Lv.joint (fun _ h => h.tail.tail) ?_)
              exact Lv.to (H26__15 ⟨p134_4, p141_10⟩ trivial) (Sub.sel [3, 4, 5, 6, 7, 8, 9, 13, 14, 15, 132, 133, 134, 135, 137, 140, 141, 142, 144, 148] rfl) (fun _ h => Own.pickT (hs := [_, _]) (hs' := [_, _]) h [1, 0] rfl (by decide))
             ·
              refine Ll.slice (xs := [.tmp 144]) (vs := [i6_ ((k : Int))]) Base.elem25 rfl rfl rfl rfl rfl rfl (by decide) rfl fun p145_11 hp145_11 => ?_
              refine Ll.nil (Lv.joint (fun _ h => h.tail.tail) ?_)
              exact Lv.to (H26__16 ⟨p134_4, p145_11⟩ trivial) (Sub.sel [3, 4, 5, 6, 7, 8, 9, 13, 14, 15, 132, 133, 134, 135, 137, 140, 142, 145, 148] rfl) (fun _ h => Own.pickT (hs := [_, _]) (hs' := [_, _]) h [1, 0] rfl (by decide))
            ·
             refine Ll.slice (xs := [.tmp 137]) (vs := [i6_ ((l : Int))]) Base.elem25 rfl rfl rfl rfl rfl rfl (by decide) rfl fun p138_9 hp138_9 => ?_
             refine Ll.nil (Lv.joint (fun _ h => h.tail) ?_)
             refine Lv.alt rfl ?_ (Lv.alt rfl ?_ (Lv.loud rfl ?_))
             ·
              refine Ll.slice (xs := []) (vs := []) Base.elem25 rfl rfl rfl rfl rfl rfl (by decide) rfl fun p134_5 hp134_5 => ?_
              refine Ll.nil (Lv.joint (fun _ h => h.tail.tail) ?_)
              exact Lv.to (H26__14 ⟨p134_5, p138_9⟩ trivial) (Sub.sel [3, 4, 5, 6, 7, 8, 9, 13, 14, 15, 132, 133, 134, 135, 138, 140, 142, 144, 148] rfl) (fun _ h => h)
             ·
              refine Ll.slice (xs := []) (vs := []) Base.elem25 rfl rfl rfl rfl rfl rfl (by decide) rfl fun p141_11 hp141_11 => ?_
              refine Ll.nil (Lv.joint (fun _ h => h.tail.tail) ?_)
              exact Lv.to (H26__17 ⟨p138_9, p141_11⟩ trivial) (Sub.sel [3, 4, 5, 6, 7, 8, 9, 13, 14, 15, 132, 133, 135, 138, 140, 141, 142, 144, 148] rfl) (fun _ h => Own.pickT (hs := [_, _]) (hs' := [_, _]) h [1, 0] rfl (by decide))
             ·
              refine Ll.slice (xs := [.tmp 144]) (vs := [i6_ ((k : Int))]) Base.elem25 rfl rfl rfl rfl rfl rfl (by decide) rfl fun p145_12 hp145_12 => ?_
              refine Ll.nil (Lv.joint (fun _ h => h.tail.tail) ?_)
              exact Lv.to (H26__18 ⟨p138_9, p145_12⟩ trivial) (Sub.sel [3, 4, 5, 6, 7, 8, 9, 13, 14, 15, 132, 133, 135, 138, 140, 142, 145, 148] rfl) (fun _ h => Own.pickT (hs := [_, _]) (hs' := [_, _]) h [1, 0] rfl (by decide))
            ·
             refine Ll.slice (xs := []) (vs := []) Base.elem25 rfl rfl rfl rfl rfl rfl (by decide) rfl fun p141_12 hp141_12 => ?_
             refine Ll.nil (Lv.joint (fun _ h => h.tail) ?_)
             refine Lv.alt rfl ?_ (Lv.alt rfl ?_ (Lv.loud rfl ?_))
             ·
              refine Ll.slice (xs := []) (vs := []) Base.elem25 rfl rfl rfl rfl rfl rfl (by decide) rfl fun p134_6 hp134_6 => ?_
              refine Ll.nil (Lv.joint (fun _ h => h.tail.tail) ?_)
              exact Lv.to (H26__15 ⟨p134_6, p141_12⟩ trivial) (Sub.sel [3, 4, 5, 6, 7, 8, 9, 13, 14, 15, 132, 133, 134, 135, 137, 140, 141, 142, 144, 148] rfl) (fun _ h => h)
             ·
              refine Ll.slice (xs := [.tmp 137]) (vs := [i6_ ((l : Int))]) Base.elem25 rfl rfl rfl rfl rfl rfl (by decide) rfl fun p138_10 hp138_10 => ?_
              refine Ll.nil (Lv.joint (fun _ h => h.tail.tail) ?_)
              exact Lv.to (H26__17 ⟨p138_10, p141_12⟩ trivial) (Sub.sel [3, 4, 5, 6, 7, 8, 9, 13, 14, 15, 132, 133, 135, 138, 140, 141, 142, 144, 148] rfl) (fun _ h => h)
             ·
              refine Ll.slice (xs := [.tmp 144]) (vs := [i6_ ((k : Int))]) Base.elem25 rfl rfl rfl rfl rfl rfl (by decide) rfl fun p145_13 hp145_13 => ?_
              refine Ll.nil (Lv.joint (fun _ h => h.tail.tail) ?_)
              exact Lv.to (H26__19 ⟨p141_12, p145_13⟩ trivial) (Sub.sel [3, 4, 5, 6, 7, 8, 9, 13, 14, 15, 132, 133, 135, 137, 140, 141, 142, 145, 148] rfl) (fun _ h => Own.pickT (hs := [_, _]) (hs' := [_, _]) h [1, 0] rfl (by decide))
            ·
             refine Ll.slice (xs := [.tmp 144]) (vs := [i6_ ((k : Int))]) Base.elem25 rfl rfl rfl rfl rfl rfl (by decide) rfl fun p145_14 hp145_14 => ?_
             refine Ll.nil (Lv.joint (fun _ h => h.tail) ?_)
             refine Lv.alt rfl ?_ (Lv.alt rfl ?_ (Lv.loud rfl ?_))
             ·
              refine Ll.slice (xs := []) (vs := []) Base.elem25 rfl rfl rfl rfl rfl rfl (by decide) rfl fun p134_7 hp134_7 => ?_
              refine Ll.nil (Lv.joint (fun _ h => h.tail.tail) ?_)
              exact Lv.to (H26__16 ⟨p134_7, p145_14⟩ trivial) (Sub.sel [3, 4, 5, 6, 7, 8, 9, 13, 14, 15, 132, 133, 134, 135, 137, 140, 142, 145, 148] rfl) (fun _ h => h)
             ·
              refine Ll.slice (xs := [.tmp 137]) (vs := [i6_ ((l : Int))]) Base.elem25 rfl rfl rfl rfl rfl rfl (by decide) rfl fun p138_11 hp138_11 => ?_
              refine Ll.nil (Lv.joint (fun _ h => h.tail.tail) ?_)
              exact Lv.to (H26__18 ⟨p138_11, p145_14⟩ trivial) (Sub.sel [3, 4, 5, 6, 7, 8, 9, 13, 14, 15, 132, 133, 135, 138, 140, 142, 145, 148] rfl) (fun _ h => h)
             ·
              refine Ll.slice (xs := []) (vs := []) Base.elem25 rfl rfl rfl rfl rfl rfl (by decide) rfl fun p141_13 hp141_13 => ?_
              refine Ll.nil (Lv.joint (fun _ h => h.tail.tail) ?_)
              exact Lv.to (H26__19 ⟨p141_13, p145_14⟩ trivial) (Sub.sel [3, 4, 5, 6, 7, 8, 9, 13, 14, 15, 132, 133, 135, 137, 140, 141, 142, 145, 148] rfl) (fun _ h => h)
           ·
            skip
            refine Lv.left lawFnSecondWins_o26_29x (by kernel_rfl) (fun _ h => h) ?_
            refine Lv.run 2 rfl (fun _ h => h) ?_
            refine Lv.nil ?_
            refine Kt.sel [3, 4, 5, 6, 7, 8, 9, 13, 14, 15] [_, _, _, _, _, _, _, _, _, _] rfl ?_
            refine Wk.regionQ ?_
            refine Lq.run 1 rfl ?_
            refine Lq.op rfl rfl rfl (OpQ.add rfl rfl rfl (by omega) (by omega)) ?_
            refine Lq.run 1 rfl ?_
            refine Lq.nil ?_
            refine Kt.again (l + 1) (by omega) (by omega) (Sub.cons rfl (Sub.cons rfl (Sub.cons rfl (Sub.cons rfl (Sub.cons rfl (Sub.cons rfl (Sub.cons rfl (Sub.cons rfl (Sub.cons (by rw [someW_succ, hg132]; rfl) (Sub.sel [15] rfl)))))))))) (fun _ h => h)
          ·
           replace h128 := of_decide_eq_false h128
           obtain rfl : l = a21.n.toNat := by omega
           refine Wk.exit rfl ?_
           refine Kt.sel [3, 4, 5, 6, 7, 8, 9, 13, 14] [_, _, _, _, _, _, _, _, _] rfl ?_
           refine Wk.regionQ ?_
           refine Lq.run 2 rfl ?_
           refine Lq.bool fun b152 hg152 => ?_
           cases b152
           ·
            skip
            refine Lq.pass rfl rfl rfl ?_
            refine Lq.run 2 rfl ?_
            refine Lq.nil ?_
            refine Kt.sel [3, 4, 5, 6, 7, 8, 9, 13] [_, _, _, _, _, _, _, _] rfl ?_
            refine Wk.regionQ ?_
            refine Lq.run 1 rfl ?_
            refine Lq.op rfl rfl rfl (OpQ.add rfl rfl rfl (by omega) (by omega)) ?_
            refine Lq.run 1 rfl ?_
            refine Lq.nil ?_
            refine Kt.again (k + 1) (by omega) (by omega) (Sub.cons rfl (Sub.cons rfl (Sub.cons rfl (Sub.cons rfl (Sub.cons rfl (Sub.cons rfl (Sub.cons (by rw [allW_succ, ← Bool.and_assoc, hg152]; rfl) (Sub.sel [13] rfl)))))))) (fun _ h => h)
           ·
            skip
            refine Lq.run 3 rfl ?_
            refine Lq.nil ?_
            refine Kt.sel [3, 4, 5, 6, 7, 8, 9, 13] [_, _, _, _, _, _, _, _] rfl ?_
            refine Wk.regionQ ?_
            refine Lq.run 1 rfl ?_
            refine Lq.op rfl rfl rfl (OpQ.add rfl rfl rfl (by omega) (by omega)) ?_
            refine Lq.run 1 rfl ?_
            refine Lq.nil ?_
            refine Kt.again (k + 1) (by omega) (by omega) (Sub.cons rfl (Sub.cons rfl (Sub.cons rfl (Sub.cons rfl (Sub.cons rfl (Sub.cons rfl (Sub.cons (by rw [allW_succ, ← Bool.and_assoc, hg152]; rfl) (Sub.sel [13] rfl)))))))) (fun _ h => h)
         ·
          replace h122 := of_decide_eq_false h122
          obtain rfl : k = b21.n.toNat := by omega
          refine Wk.exit rfl ?_
          refine Kt.sel [8, 9] [_, _] rfl ?_
          refine Wk.seq ?_
          refine Wk.regionQ ?_
          refine Lq.run 2 rfl ?_
          refine Lq.op rfl rfl rfl (OpQ.beq rfl Tryd.runUnderlying4 rfl rfl) ?_
          refine Lq.run 1 rfl ?_
          refine Lq.nil ?_
          refine Kt.sel [2] [_] rfl ?_
          refine Wk.ret (Kt.end1 rfl rfl fun w' hw => ?_)
          -- ret 4: bo_ ((secB a21 xs21 b21 ys21 r21) == (allW (secF a21 xs21 b21 ys21 r21) a21.n.toNat b21.n.toNat && allW (secG a21 xs21 b21 ys21 r21) b21.n.toNat a21.n.toNat))
          exact ⟨ret_b (by rw [sec_rounds hLL (by omega) (by omega) (by omega)]; exact beq_self_eq_true _), hw.below⟩
      ·
       replace hg67 := of_decide_eq_true hg67
       refine Lq.pass rfl rfl rfl ?_
       refine Lq.pass rfl rfl rfl ?_
       refine Lq.pass rfl rfl rfl ?_
       refine Lq.run 1 rfl ?_
       refine Lq.nil ?_
       refine Kt.sel [3, 4, 5, 6, 7, 8, 71] [_, _, _, _, _, _, _] rfl ?_
       refine Wk.condT rfl ?_
       refine Wk.seq ?_
       refine Wk.regionQ ?_
       refine Lq.run 3 rfl ?_
       refine Lq.bool fun b74 hg74_1 => ?_
       cases b74
       ·
        replace hg74_1 := of_decide_eq_false hg74_1
        refine Lq.run 1 rfl ?_
        refine Lq.op rfl rfl rfl (OpQ.loadBox (cs := #[i6_ a21.n, str a21.set, str a21.rel]) 1 rfl Tryd.isAgg24 rfl rfl Tryd.sizeOf24) ?_
        refine Lq.run 1 rfl ?_
        refine Lq.op rfl rfl rfl (OpQ.loadBox (cs := #[i6_ b21.n, str b21.set, str b21.rel]) 0 rfl Tryd.isAgg24 rfl rfl Tryd.sizeOf24) ?_
        refine Lq.run 1 rfl ?_
        refine Lq.op (v := bo_ (wayB a21 xs21 b21 ys21)) rfl rfl rfl (OpQ.call rfl Tryd.call19 rfl Own.stable (fun w1 hw1 => iPart_ok a21 b21 xs21 ys21 v21 u21 w1 hsa21 hsb21 (hIv21 _ (Own.dropR (Own.drop (f := [_, _]) hw1))) (hIu21 _ (Own.dropR (Own.drop (f := [_, _]) hw1))) (by first | (simp; done) | (simp; omega) | omega) (by first | (simp; done) | (simp; omega) | omega))) ?_
        refine Lq.op rfl rfl rfl (OpQ.beq rfl Tryd.runUnderlying4 rfl rfl) ?_
        refine Lq.run 2 rfl ?_
        refine Lq.nil ?_
        refine Kt.sel [2] [_] rfl ?_
        refine Wk.ret (Kt.end1 rfl rfl fun w' hw => ?_)
        -- ret 5: bo_ ((secB a21 xs21 b21 ys21 r21) == (wayB a21 xs21 b21 ys21))
        exact ⟨ret_b (sec_zero_eq hLL (by omega)), hw.below⟩
       ·
        replace hg74_1 := of_decide_eq_true hg74_1
        refine Lq.pass rfl rfl rfl ?_
        refine Lq.pass rfl rfl rfl ?_
        refine Lq.pass rfl rfl rfl ?_
        refine Lq.pass rfl rfl rfl ?_
        refine Lq.pass rfl rfl rfl ?_
        refine Lq.pass rfl rfl rfl ?_
        refine Lq.pass rfl rfl rfl ?_
        refine Lq.run 2 rfl ?_
        refine Lq.nil ?_
        refine Kt.sel [2] [_] rfl ?_
        refine Wk.ret (Kt.end1 rfl rfl fun w' hw => ?_)
        -- ret 6: bo_ true
        exact ⟨ret_b (by first | rfl | (simp_all; done) | (simp_all; omega)), hw.below⟩
    ·
     replace hg49 := of_decide_eq_true hg49
     refine Lq.pass rfl rfl rfl ?_
     refine Lq.pass rfl rfl rfl ?_
     refine Lq.pass rfl rfl rfl ?_
     refine Lq.pass rfl rfl rfl ?_
     refine Lq.pass rfl rfl rfl ?_
     refine Lq.pass rfl rfl rfl ?_
     refine Lq.run 1 rfl ?_
     refine Lq.nil ?_
     refine Kt.sel [3, 4, 5, 6, 7, 8, 56] [_, _, _, _, _, _, _] rfl ?_
     refine Wk.condT rfl ?_
     refine Wk.seq ?_
     refine Wk.regionQ ?_
     refine Lq.run 1 rfl ?_
     refine Lq.op rfl rfl rfl (OpQ.loadBox (cs := #[i6_ a21.n, str a21.set, str a21.rel]) 1 rfl Tryd.isAgg24 rfl rfl Tryd.sizeOf24) ?_
     refine Lq.run 1 rfl ?_
     refine Lq.op rfl rfl rfl (OpQ.loadBox (cs := #[i6_ b21.n, str b21.set, str b21.rel]) 0 rfl Tryd.isAgg24 rfl rfl Tryd.sizeOf24) ?_
     refine Lq.run 2 rfl ?_
     refine Lq.op (v := bo_ (secB a21 xs21 b21 ys21 r21)) rfl rfl rfl (OpQ.call rfl Tryd.call27 rfl Own.stable (fun w1 hw1 => sWins_ok a21 b21 xs21 ys21 v21 u21 w1 hsa21 hsb21 (hIv21 _ (Own.dropR (Own.drop (f := [_, _]) hw1))) (hIu21 _ (Own.dropR (Own.drop (f := [_, _]) hw1))) (by first | (simp; done) | (simp; omega) | omega) (by first | (simp; done) | (simp; omega) | omega) loa21 hia21 lob21 hib21 r21)) ?_
     refine Lq.op rfl rfl rfl (OpQ.beq rfl Tryd.runUnderlying4 rfl rfl) ?_
     refine Lq.run 1 rfl ?_
     refine Lq.nil ?_
     refine Kt.sel [2] [_] rfl ?_
     refine Wk.ret (Kt.end1 rfl rfl fun w' hw => ?_)
     -- ret 7: bo_ ((secB a21 xs21 b21 ys21 r21) == (secB a21 xs21 b21 ys21 r21))
     exact ⟨ret_b (by first | rfl | (simp_all; done) | (simp_all; omega)), hw.below⟩
   ·
    replace hg45 := of_decide_eq_true hg45
    refine Lq.pass rfl rfl rfl ?_
    refine Lq.pass rfl rfl rfl ?_
    refine Lq.run 2 rfl ?_
    refine Lq.pass rfl rfl rfl ?_
    refine Lq.pass rfl rfl rfl ?_
    refine Lq.pass rfl rfl rfl ?_
    refine Lq.pass rfl rfl rfl ?_
    refine Lq.pass rfl rfl rfl ?_
    refine Lq.pass rfl rfl rfl ?_
    refine Lq.run 1 rfl ?_
    refine Lq.nil ?_
    refine Kt.sel [3, 4, 5, 6, 7, 8, 56] [_, _, _, _, _, _, _] rfl ?_
    refine Wk.condT rfl ?_
    refine Wk.seq ?_
    refine Wk.regionQ ?_
    refine Lq.run 1 rfl ?_
    refine Lq.op rfl rfl rfl (OpQ.loadBox (cs := #[i6_ a21.n, str a21.set, str a21.rel]) 1 rfl Tryd.isAgg24 rfl rfl Tryd.sizeOf24) ?_
    refine Lq.run 1 rfl ?_
    refine Lq.op rfl rfl rfl (OpQ.loadBox (cs := #[i6_ b21.n, str b21.set, str b21.rel]) 0 rfl Tryd.isAgg24 rfl rfl Tryd.sizeOf24) ?_
    refine Lq.run 2 rfl ?_
    refine Lq.op (v := bo_ (secB a21 xs21 b21 ys21 r21)) rfl rfl rfl (OpQ.call rfl Tryd.call27 rfl Own.stable (fun w1 hw1 => sWins_ok a21 b21 xs21 ys21 v21 u21 w1 hsa21 hsb21 (hIv21 _ (Own.dropR (Own.drop (f := [_, _]) hw1))) (hIu21 _ (Own.dropR (Own.drop (f := [_, _]) hw1))) (by first | (simp; done) | (simp; omega) | omega) (by first | (simp; done) | (simp; omega) | omega) loa21 hia21 lob21 hib21 r21)) ?_
    refine Lq.op rfl rfl rfl (OpQ.beq rfl Tryd.runUnderlying4 rfl rfl) ?_
    refine Lq.run 1 rfl ?_
    refine Lq.nil ?_
    refine Kt.sel [2] [_] rfl ?_
    refine Wk.ret (Kt.end1 rfl rfl fun w' hw => ?_)
    -- ret 8: bo_ ((secB a21 xs21 b21 ys21 r21) == (secB a21 xs21 b21 ys21 r21))
    exact ⟨ret_b (by first | rfl | (simp_all; done) | (simp_all; omega)), hw.below⟩
  ·
   exact absurd hg41 (by simp)

end Go.Proofs.YtmannilblelfjaaDoor
