import PyProof.Rows.All
import PyProof.CompFree
import PyProof.Cells
import PyProof.DictWalks
import PyProof.WalksMore
import PyProof.RangeFor
import PyProof.Rules3
import PyProof.AutoIntOps
import PyProof.PureInt
import PyProof.NoPylong
import PyProof.ListOps
import PyProof.ListIndex
import PyProof.ListMulRoad
import PyProof.LetGo
import PyProof.SliceList
import PyProof.SliceMore
import PyProof.TupleOps
import PyProof.DictStraight
import PyProof.RulesRaise
import PyProof.CallType
import PyProof.ConsumeWalk
import PyProof.SumWalk
import PyProof.ListCopy
import PyProof.ListRange
import PyProof.IsiPairs
import PyProof.IsiHeapPairs
import PyProof.WalkInts
import PyProof.DictTruth
import PyProof.Rows.RuleN_abs
import PyProof.Conv_int_bool
import PyProof.NeKinds
import PyProof.EqKinds
import KE.KEqDict
import KE.KDictList
import PyProof.ForAppend
import OpenK.KLine
import OpenK.KLaw
import PyProof.Dict
import PyProof.DictRoads
import PyProof.EqAt
import PyProof.DictValues
import PyProof.FactsAll.dict_0
import PyProof.FactsAll.dict_4
import PyProof.Rows.SortShell
import PyProof.Rows.SortWalk
import PyProof.Rows.DictMade
import KE.KDictOf
import KE.KDictSum
import Wide.Txt2
import PyProof.AttrMissHeap
import PySem.Builtin.List.W1All
import PyProof.Rows.SortLt
import PyProof.Rows.SortRuns
import PyProof.Rows.SortRev
import PyProof.Rows.TupMore
import PyProof.CallRoads
import PyProof.FactsAll.list_4
import KE.KFind
import Wide.BridgeG
import Wide.Well
import Wide.OfPy
import PySem.Challenge.RW_uf040026_03
set_option Elab.async false
set_option tactic.hygienic false
set_option linter.unusedVariables false
set_option linter.unusedSimpArgs false
section
set_option maxRecDepth 10000
namespace Inn
theorem ar_3 {x0 x1 x2 : Nat} (h0 : (x0 : Nat) < (x2 + 1)) (h1 : (x1 : Nat) < (x2 + 1)) (h2 : (x2 : Nat) ≤ x0) (h3 : (x2 : Nat) ≤ x1) : (x0 : Nat) = x1 := by lia
theorem ar_4 {z0 : Int} (h0 : ((((0 : Int) : Int) < z0) ∧ ((z0 : Int) < (1000000000 : Int)))) : ¬ ((z0 : Int) = (0 : Int)) := by lia
theorem ar_8 {z0 : Int} (h0 : (z0 : Int) < (1000 : Int)) : (((4 : Int) * z0) : Int) ≤ (134217728 : Int) := by lia
theorem ar_9 {x0 x1 : Nat} : ((x0 + (x1 * x0)) : Nat) = ((x1 * x0) + x0) := by exact Nat.add_comm x0 (x1 * x0)
theorem ar_13 {x0 : Nat} {z0 : Int} (h0 : ((((0 : Int) : Int) ≤ z0) ∧ (((((((x0 : Nat) : Int) * z0) : Int) ≤ (1000000 : Int)) ∧ ((z0 : Int) < (1000000 : Int)))))) (h1 : ((((x0 * (Int.toNat z0)) : Nat) : Int) : Int) = (((x0 : Nat) : Int) * z0)) : ((x0 * (Int.toNat z0)) : Nat) ≤ 1000000 := by omega
theorem ar_16 {x0 : Nat} {z0 : Int} (h0 : ((x0 * (Int.toNat z0)) : Nat) ≤ 1000000) : ((x0 * (Int.toNat z0)) : Nat) ≤ 16777216 := by omega
theorem ar_21 {x0 : Nat} : (x0 : Nat) = (0 + x0) := by exact Eq.symm (Nat.zero_add x0)
theorem ar_23 {x0 : Nat} : ((0 : Int) : Int) < (((x0 + 1) : Nat) : Int) := by exact Int.ofNat_succ_pos x0
theorem ar_24 {x0 x1 x2 : Nat} (h0 : (x1 : Nat) = (x0 + (x2 + 1))) : (x0 : Nat) < x1 := by lia
theorem ar_25 {x0 x1 x2 : Nat} (h0 : (x0 : Nat) = (x1 + (x2 + 1))) : (x0 : Nat) = ((x1 + 1) + x2) := by simp +arith at * <;> first | assumption | omega
theorem ar_26 {x0 : Nat} {z0 : Int} : ((z0 + (((x0 + 1) : Nat) : Int)) : Int) = ((z0 + ((x0 : Nat) : Int)) + (1 : Int)) := by omega
theorem ar_27 {x0 : Nat} : (((((x0 + 1) : Nat) : Int) - (1 : Int)) : Int) = ((x0 : Nat) : Int) := by omega
theorem ar_28 {x0 x1 x2 : Nat} (h0 : ((x0 + (x1 + 1)) : Nat) < x2) : (((x0 + 1) + x1) : Nat) < x2 := by simp +arith at * <;> first | assumption | omega
theorem ar_29 {x0 x1 x2 : Nat} (h0 : ((x0 + (100 * ((x1 + 1) + 1))) : Nat) < x2) : (((x0 + 3) + (100 * (x1 + 1))) : Nat) < x2 := by lia
theorem ar_31 {x0 x1 x2 x3 : Nat} (h0 : ((x0 + x3) : Nat) < x2) (h1 : (x1 : Nat) ≤ x3) : ((x0 + x1) : Nat) < x2 := by lia
theorem ar_32 {x0 x1 x2 x3 : Nat} (h0 : ((x0 + (100 * (x3 + 1))) : Nat) < x2) (h1 : (x1 : Nat) ≤ x3) : ((x0 + (100 * (x1 + 1))) : Nat) < x2 := by lia
theorem ar_34 {x0 : Nat} (h0 : (x0 : Nat) ≤ 1000000) : (((x0 : Nat) : Int) : Int) < (9223372036854775808 : Int) := by lia
theorem ar_36 {x0 x1 x2 : Nat} (h0 : (x2 : Nat) = ((x0 + 1) - x1)) (h1 : (x1 : Nat) ≤ x0) : (((x0 + 1) - (x1 + 1)) : Nat) < x2 := by omega
theorem ar_37 {x0 x1 x2 : Nat} (h0 : (x1 : Nat) ≤ 1000000) (h1 : (x2 : Nat) ≤ x1) (h2 : (x0 : Nat) ≤ x2) : (x0 : Nat) ≤ 1000000 := by lia
theorem ar_39 {x0 x1 : Nat} : ((min (x0 + 1) (x1 + 1)) : Nat) = ((min x0 x1) + 1) := by exact Nat.add_min_add_right x0 x1 1
theorem ar_40 {x0 x1 x2 : Nat} (h0 : ((x0 + (100 * (x2 + 1))) : Nat) < x1) : ((x0 + 6) : Nat) < x1 := by lia
theorem ar_41 {x0 x1 : Nat} (h0 : (x1 : Nat) = x0) : (x0 : Nat) = x1 := by exact Nat.add_right_cancel (congrFun (congrArg HAdd.hAdd (id (Eq.symm h0))) x0)
theorem ar_43 {x0 x1 x2 x3 : Nat} (h0 : (((x1 : Nat) ≤ x2) ∧ ((x3 : Nat) < 1000000))) (h1 : (x3 : Nat) = x0) : (x0 : Nat) ≤ 999999 := by lia
theorem ar_44 {x0 x1 x2 x3 : Nat} (h0 : (((x1 : Nat) ≤ x2) ∧ ((x3 : Nat) < 1000000))) (h1 : (x0 : Nat) ≤ (x3 + 1)) : (x0 : Nat) ≤ 1000000 := by lia
theorem ar_45 {x0 x1 x2 : Nat} (h0 : (x1 : Nat) < x2) (h1 : (x2 : Nat) ≤ 1000000) (h2 : (x0 : Nat) ≤ x1) : (x0 : Nat) ≤ 1000000 := by lia
theorem ar_46 {x0 x1 x2 : Nat} (h0 : (x0 : Nat) ≤ (x2 + 1)) (h1 : (x2 : Nat) ≤ x1) : (x0 : Nat) ≤ (x1 + 1) := by lia
theorem ar_50 {x0 x1 : Nat} : (x0 : Nat) ≤ (x0 + x1) := by exact Nat.le_add_right x0 x1
theorem ar_51 {x0 x1 x2 : Nat} (h0 : (x0 : Nat) < (min x2 x1)) : (x0 : Nat) < x1 := by lia
theorem ar_52 {x0 x1 x2 : Nat} (h0 : (x0 : Nat) < (min x1 x2)) : (x0 : Nat) < x1 := by lia
theorem ar_54 {x0 x1 x2 x3 : Nat} (h0 : (((x0 + x1) + (x2 + 1)) : Nat) ≤ x3) : (((x0 + (x1 + 1)) + x2) : Nat) ≤ x3 := by simp +arith at * <;> first | assumption | omega
theorem ar_56 {x0 x1 x2 : Nat} : ((x0 + x1) : Nat) < ((x0 + (x1 + 1)) + x2) := by simp +arith at * <;> first | assumption | omega
theorem ar_57 {x0 x1 : Nat} : ((x0 + (x1 + 1)) : Nat) = ((x0 + x1) + 1) := by simp +arith at * <;> first | assumption | omega
theorem ar_58 {x0 x1 x2 : Nat} (h0 : ((x0 + x1) : Nat) < x2) : ((min (x0 + x1) x2) : Nat) = (x0 + x1) := by lia
theorem ar_59 {x0 x1 x2 : Nat} (h0 : (x0 : Nat) = (x1 + x2)) : (x0 : Nat) ≤ (x1 + x2) := by lia
theorem ar_60 {x0 x1 x2 : Nat} : ((((x0 + x1) + 1) + x2) : Nat) = ((x0 + x1) + (x2 + 1)) := by simp +arith at * <;> first | assumption | omega
theorem ar_64 {x0 x1 x2 : Nat} (h0 : (x0 : Nat) = (x2 + ((x1 - x2) / 2))) (h1 : ¬ ((x2 : Nat) ≥ x1)) : (x0 : Nat) < x1 := by (rw [h0]; exact Nat.lt_of_lt_of_eq (Nat.add_lt_add_left (Nat.div_lt_self (Nat.sub_pos_of_lt (Nat.not_le.mp h1)) (by decide)) x2) (Nat.add_sub_cancel' (Nat.le_of_lt (Nat.not_le.mp h1))))
theorem ar_66 {x0 x1 x2 x3 x4 : Nat} (h0 : ((x0 + x1) : Nat) ≤ (x4 + x3)) (h1 : (x4 : Nat) ≤ x2) : ((x0 + (x1 + 1)) : Nat) ≤ ((x2 + 1) + x3) := by lia
theorem ar_68 {x0 x1 x2 x3 x4 : Nat} (h0 : ((x4 + x1) : Nat) ≤ (x2 + x3)) (h1 : (x0 : Nat) < x4) : ((x0 + (x1 + 1)) : Nat) ≤ (x2 + x3) := by lia
theorem ar_69 {x0 x1 x2 : Nat} (h0 : ((x1 + (max 0 x2)) : Nat) ≤ (x0 + x2)) (h1 : (x0 : Nat) ≤ x1) : (x0 : Nat) = x1 := by lia
theorem ar_73 {x0 : Nat} : (x0 : Nat) < ((2 * x0) + 1) := by simp +arith at * <;> first | assumption | omega
theorem ar_75 {x0 x1 : Nat} (h0 : (x0 : Nat) < x1) : ((x0 + 1) : Nat) < ((2 * x1) + 1) := by lia
theorem ar_77 {x0 : Nat} : (0 : Nat) ≤ x0 := by exact Nat.zero_le x0
theorem ar_79 {x0 x1 : Nat} (h0 : ¬ ((x0 : Nat) ≥ (x1 + 1))) : (x0 : Nat) ≤ x1 := by simp +arith at * <;> first | assumption | omega
theorem ar_83 {x0 x1 x2 : Nat} (h0 : ((x2 + 1) : Nat) = x1) (h1 : (x0 : Nat) < x1) (h2 : (x2 : Nat) ≤ x0) : (x0 : Nat) = (x1 - 1) := by lia
theorem ar_88 : ((0 + 1) : Nat) ≤ (0 + 1) := by simp +arith at * <;> first | assumption | omega
theorem ar_89 {x0 x1 x2 x3 x4 : Nat} (h0 : (((x0 + 1) + (max 0 (x3 + x4))) : Nat) ≤ (x1 + x2)) (h1 : (0 : Nat) < x3) : ((x0 + 2) : Nat) ≤ (x1 + x2) := by lia
theorem ar_92 {x0 x1 x2 x3 : Nat} (h0 : (((x0 + 1) + x1) : Nat) ≤ (x2 + x3)) : (((x0 + 1) + (x1 + 1)) : Nat) ≤ (x2 + (x3 + 1)) := by simp +arith at * <;> first | assumption | omega
theorem ar_93 {x0 x1 : Nat} : ((x0 + 2) : Nat) ≤ ((x0 + 1) + (x1 + 1)) := by simp +arith at * <;> first | assumption | omega
theorem ar_95 {x0 x1 x2 x3 : Nat} (h0 : (((x0 + 1) + x1) : Nat) ≤ (x2 + x3)) : (((x0 + 1) + (x1 + 1)) : Nat) ≤ ((x2 + 1) + x3) := by simp +arith at * <;> first | assumption | omega
theorem ar_96 {x0 x1 : Nat} (h0 : ((x0 + 1) : Nat) < x1) : ((x0 + (x1 - x0)) : Nat) ≤ x1 := by lia
theorem ar_100 {x0 x1 : Nat} (h0 : (x0 : Nat) < x1) : (((x0 + 1) + (x1 - (x0 + 1))) : Nat) ≤ x1 := by omega
theorem ar_101 {x0 x1 : Nat} (h0 : ((x1 + 1) : Nat) ≠ x0) (h1 : (x1 : Nat) < x0) : (0 : Nat) < (x0 - (x1 + 1)) := by lia
theorem ar_104 {x0 x1 x2 : Nat} (h0 : (x1 : Nat) ≤ x2) : (((x0 + 1) + x1) : Nat) ≤ ((x0 + 1) + x2) := by simp +arith at * <;> first | assumption | omega
theorem ar_105 {x0 x1 x2 : Nat} (h0 : ((x0 + 2) : Nat) ≤ (x1 + x2)) : ((x0 + 2) : Nat) ≤ ((x1 + 1) + x2) := by lia
theorem ar_108 {x0 x1 x2 x3 : Nat} (h0 : ((x0 + 2) : Nat) ≤ (x1 + x2)) : ((x0 + 2) : Nat) ≤ (x1 + ((x2 + 1) + x3)) := by lia
theorem ar_110 {x0 x1 x2 : Nat} (h0 : ((x0 + 2) : Nat) ≤ (x1 + x2)) : ((x0 + 2) : Nat) ≤ (x1 + (x2 + 1)) := by lia
theorem ar_113 {x0 x1 x2 : Nat} (h0 : ((x0 + 1) : Nat) < x2) (h1 : ((x0 + x1) : Nat) ≠ x2) (h2 : (x1 : Nat) ≤ (x2 - x0)) : ((x0 + x1) : Nat) < x2 := by lia
theorem ar_114 {x0 x1 x2 x3 : Nat} (h0 : ((x0 + 2) : Nat) ≤ (x1 + x3)) : ((x0 + 2) : Nat) ≤ ((x1 + x2) + x3) := by lia
theorem ar_117 {x0 : Nat} : ((x0 - 1) : Nat) ≤ x0 := by exact Nat.sub_le x0 1
theorem ar_119 {x0 x1 : Nat} (h0 : (x0 : Nat) < x1) (h1 : (x1 : Nat) = 1) : (x0 : Nat) = 0 := by lia
theorem ar_120 {x0 : Nat} (h0 : ((x0 - 1) : Nat) ≠ 0) : (((0 : Nat) < (x0 - 1)) ∧ (((x0 - 1) : Nat) ≤ x0)) := by simp +arith at * <;> first | assumption | omega
theorem ar_121 {x0 : Nat} (h0 : (0 : Nat) < x0) (h1 : (x0 : Nat) ≠ 1) : (((1 : Nat) < x0) ∧ ((x0 : Nat) ≤ x0)) := by lia
theorem ar_122 {x0 x1 : Nat} (h0 : (0 : Nat) < x0) : ((((x0 - 1) + x1) + (0 + 1)) : Nat) ≤ (x0 + x1) := by lia
theorem ar_123 {x0 x1 x2 x3 x4 : Nat} (h0 : (((x0 + x1) + ((x2 + 1) + (max 0 (x3 + x4)))) : Nat) ≤ (x3 + x4)) : (((x0 + x1) + (x2 + 2)) : Nat) ≤ (x3 + x4) := by simp +arith at * <;> first | assumption | omega
theorem ar_124 {x0 x1 : Nat} (h0 : (((0 : Nat) < x0) ∧ ((x0 : Nat) ≤ x1))) : ((x0 - 1) : Nat) < x1 := by omega
theorem ar_125 {x0 x1 : Nat} (h0 : (((1 : Nat) < x0) ∧ ((x0 : Nat) ≤ x1))) : ((x0 - 1) : Nat) < x1 := by omega
theorem ar_126 {x0 x1 : Nat} (h0 : (((0 : Nat) < x0) ∧ ((x0 : Nat) ≤ x1))) (h1 : ((x0 - 1) : Nat) ≠ 0) : (((0 : Nat) < (x0 - 1)) ∧ (((x0 - 1) : Nat) ≤ x1)) := by lia
theorem ar_127 {x0 x1 x2 x3 x4 x5 : Nat} (h0 : (((0 : Nat) < x0) ∧ ((x0 : Nat) ≤ x4))) (h1 : (((x0 + x1) + ((x2 + 1) + x3)) : Nat) ≤ (x4 + x5)) : ((((x0 - 1) + x1) + ((x2 + 1) + (x3 + 1))) : Nat) ≤ (x4 + x5) := by (cases x0 with | zero => exact absurd h0.1 (Nat.lt_irrefl 0) | succ y => exact Nat.le_trans (Nat.le_of_eq (show y + x1 + (x2 + 1 + (x3 + 1)) = y + 1 + x1 + (x2 + 1 + x3) by simp +arith)) h1)
theorem ar_128 {x0 x1 x2 x3 : Nat} : ((((x0 - 1) + x1) + (x2 + 2)) : Nat) ≤ (((x0 - 1) + x1) + ((x2 + 1) + (x3 + 1))) := by simp +arith at * <;> first | assumption | omega
theorem ar_131 {x0 x1 x2 x3 x4 x5 : Nat} (h0 : (((1 : Nat) < x1) ∧ ((x1 : Nat) ≤ x5))) (h1 : (((x0 + x1) + ((x2 + 1) + x3)) : Nat) ≤ (x4 + x5)) : (((x0 + (x1 - 1)) + ((x2 + 1) + (x3 + 1))) : Nat) ≤ (x4 + x5) := by (cases x1 with | zero => exact absurd h0.1 (Nat.not_lt_zero 1) | succ y => exact Nat.le_trans (Nat.le_of_eq (show x0 + y + (x2 + 1 + (x3 + 1)) = x0 + (y + 1) + (x2 + 1 + x3) by simp +arith)) h1)
theorem ar_132 {x0 x1 x2 x3 : Nat} : (((x0 + (x1 - 1)) + (x2 + 2)) : Nat) ≤ ((x0 + (x1 - 1)) + ((x2 + 1) + (x3 + 1))) := by simp +arith at * <;> first | assumption | omega
theorem ar_133 {x0 x1 : Nat} (h0 : (((0 : Nat) < x0) ∧ ((x0 : Nat) ≤ x1))) : ((0 + x0) : Nat) ≤ x1 := by lia
theorem ar_135 {x0 x1 x2 : Nat} (h0 : (((0 : Nat) < x2) ∧ ((x2 : Nat) ≤ x1))) (h1 : (x0 : Nat) < x2) : ((0 + x0) : Nat) < x1 := by lia
theorem ar_136 {x0 x1 x2 x3 : Nat} (h0 : (((0 : Nat) < x2) ∧ ((x2 : Nat) ≤ x1))) (h1 : (x3 : Nat) < x2) (h2 : (x0 : Nat) ≤ x3) : ((0 + x0) : Nat) < x1 := by lia
theorem ar_137 {x0 x1 : Nat} (h0 : (x0 : Nat) ≤ x1) : ((0 + x0) : Nat) ≤ (0 + x1) := by simp +arith at * <;> first | assumption | omega
theorem ar_138 {x0 x1 : Nat} (h0 : (((1 : Nat) < x0) ∧ ((x0 : Nat) ≤ x1))) : ((0 + (x0 - 1)) : Nat) ≤ x1 := by simp +arith at * <;> first | assumption | omega
theorem ar_140 {x0 x1 x2 : Nat} (h0 : (((1 : Nat) < x2) ∧ ((x2 : Nat) ≤ x1))) (h1 : (x0 : Nat) < (x2 - 1)) : ((0 + x0) : Nat) < x1 := by (rw [Nat.zero_add]; exact Nat.lt_of_lt_of_le h1 (Nat.le_trans (Nat.sub_le _ _) h0.2))
theorem ar_141 {x0 x1 x2 x3 : Nat} (h0 : (((1 : Nat) < x2) ∧ ((x2 : Nat) ≤ x1))) (h1 : (x3 : Nat) < (x2 - 1)) (h2 : (x0 : Nat) ≤ x3) : ((0 + x0) : Nat) < x1 := by (rw [Nat.zero_add]; exact Nat.lt_of_le_of_lt h2 (Nat.lt_of_lt_of_le h1 (Nat.le_trans (Nat.sub_le _ _) h0.2)))
theorem ar_147 {x0 x1 x2 : Nat} (h0 : (((0 : Nat) < x2) ∧ ((x2 : Nat) ≤ x1))) (h1 : (x0 : Nat) ≠ 0) (h2 : (x0 : Nat) ≤ x2) : (((0 : Nat) < x0) ∧ ((x0 : Nat) ≤ x1)) := by lia
theorem ar_148 {x0 x1 x2 x3 x4 x5 : Nat} (h0 : (((x5 + x1) + (x2 + 2)) : Nat) ≤ (x3 + x4)) (h1 : (x0 : Nat) ≤ x5) : (((x0 + x1) + (x2 + 2)) : Nat) ≤ (x3 + x4) := by lia
theorem ar_149 {x0 x1 : Nat} (h0 : (x0 : Nat) ≤ x1) (h1 : ¬ (((x1 - x0) : Nat) > 0)) : (x0 : Nat) = x1 := by lia
theorem ar_151 {x0 x1 x2 : Nat} (h0 : (0 : Nat) < x0) (h1 : (x1 : Nat) = (x0 + x2)) : ((x0 - 1) : Nat) < x1 := by lia
theorem ar_152 {x0 x1 x2 : Nat} (h0 : (x0 : Nat) < x1) : (x0 : Nat) < (x1 + x2) := by exact Nat.lt_add_right x2 h0
theorem ar_154 {x0 x1 x2 : Nat} (h0 : (x0 : Nat) < (x1 + x2)) : (x0 : Nat) < (x1 + x2) := by omega
theorem ar_157 {x0 x1 x2 x3 : Nat} (h0 : ((x2 + x3) : Nat) ≤ x1) (h1 : (x0 : Nat) ≤ x2) : (x0 : Nat) ≤ x1 := by lia
theorem ar_158 {x0 x1 x2 x3 : Nat} (h0 : (x0 : Nat) < x2) (h1 : (x1 : Nat) = (x2 + x3)) : ((0 + x0) : Nat) < x1 := by lia
theorem ar_159 {x0 x1 x2 x3 x4 : Nat} (h0 : (x2 : Nat) < x3) (h1 : (x1 : Nat) = (x3 + x4)) (h2 : (x0 : Nat) ≤ x2) : ((0 + x0) : Nat) < x1 := by lia
theorem ar_160 {x0 : Nat} : (0 : Nat) ≤ (0 + x0) := by simp +arith at * <;> first | assumption | omega
theorem ar_161 {x0 x1 : Nat} (h0 : (x0 : Nat) < x1) : ((0 + x0) : Nat) < x1 := by simp +arith at * <;> first | assumption | omega
theorem ar_162 {x0 x1 x2 : Nat} (h0 : (x1 : Nat) = (x0 + x2)) : ((0 + x0) : Nat) ≤ x1 := by lia
theorem ar_163 {x0 x1 x2 : Nat} (h0 : ((x2 - x1) : Nat) = 0) (h1 : (x0 : Nat) < x2) : (x0 : Nat) < x1 := by lia
theorem ar_165 {x0 x1 x2 x3 x4 : Nat} (h0 : (x3 : Nat) < x4) (h1 : (x2 : Nat) = (x0 + x4)) (h2 : (x1 : Nat) ≤ x3) : ((x0 + x1) : Nat) < x2 := by lia
theorem ar_166 {x0 x1 x2 : Nat} (h0 : (x1 : Nat) < x2) : ((x0 + x1) : Nat) < (x0 + x2) := by simp +arith at * <;> first | assumption | omega
theorem ar_167 {x0 x1 x2 : Nat} (h0 : (x2 : Nat) = (x0 + x1)) : ((x0 + x1) : Nat) ≤ x2 := by lia
theorem ar_169 {x0 x1 x2 x3 : Nat} (h0 : (0 : Nat) < x2) (h1 : (x0 : Nat) < x3) (h2 : (x3 : Nat) = (x1 + x2)) : ((x0 - x1) : Nat) < x2 := by omega
theorem ar_170 {x0 x1 x2 : Nat} (h0 : ((x0 + x2) : Nat) ≤ x1) : ((x0 + (x1 - x0)) : Nat) = x1 := by lia
theorem ar_173 {x0 x1 x2 : Nat} (h0 : ((x1 - x2) : Nat) ≠ 0) (h1 : (x0 : Nat) = (x1 - x2)) : (0 : Nat) < x0 := by lia
theorem ar_174 {x0 x1 : Nat} (h0 : (x0 : Nat) = x1) (h1 : (x1 : Nat) ≠ 0) : (0 : Nat) < x0 := by lia
theorem ar_175 {x0 x1 x2 x3 : Nat} (h0 : (0 : Nat) < x2) (h1 : (x1 : Nat) = (x3 + x2)) (h2 : (x0 : Nat) ≤ x3) : ((0 + x0) : Nat) < x1 := by lia
theorem ar_178 {x0 x1 x2 x3 : Nat} (h0 : (0 : Nat) < x3) (h1 : (x2 : Nat) = (x0 + x3)) (h2 : (x1 : Nat) ≤ x3) : ((x0 + (x1 - 1)) : Nat) < x2 := by omega
theorem ar_179 {x0 x1 x2 x3 x4 x5 : Nat} (h0 : (x1 : Nat) = ((x3 - x0) + x4)) (h1 : (x2 : Nat) = (x3 + x5)) (h2 : (x0 : Nat) ≤ x3) (h3 : (x4 : Nat) ≤ x5) : ((((0 + x0) + 0) + x1) : Nat) ≤ x2 := by (rw [h0, h1, Nat.zero_add, Nat.add_zero, ← Nat.add_assoc, Nat.add_sub_cancel' h2]; exact Nat.add_le_add_left h3 _)
theorem ar_181 {x0 x1 x2 : Nat} (h0 : (x0 : Nat) ≤ x1) : ((x0 + ((x1 - x0) + x2)) : Nat) = (x1 + x2) := by lia
theorem ar_182 {x0 x1 x2 x3 : Nat} (h0 : (x1 : Nat) < x3) (h1 : (x3 : Nat) ≤ x0) : ¬ ((((x0 : Nat) ≤ x1) ∧ ((x1 : Nat) < x2))) := by lia
theorem ar_183 {x0 x1 x2 : Nat} (h0 : (x0 : Nat) < (x1 + (x2 + 1))) (h1 : (x0 : Nat) ≥ (x1 + x2)) : (x0 : Nat) = (x1 + x2) := by lia
theorem ar_185 {x0 x1 : Nat} (h0 : (1 : Nat) ≤ x1) : (((x0 + x1) - 1) : Nat) < (x0 + x1) := by omega
theorem ar_187 {x0 x1 x2 : Nat} (h0 : (x1 : Nat) < (x2 + 1)) (h1 : (x2 : Nat) ≤ x0) (h2 : (x0 : Nat) ≤ x1) : (x0 : Nat) = x1 := by lia
theorem ar_190 {x0 x1 x2 : Nat} (h0 : (((x1 + (x2 + 1)) - 1) : Nat) ≤ x0) (h1 : (x0 : Nat) < (x1 + (x2 + 1))) : (x0 : Nat) = ((x1 + (x2 + 1)) - 1) := by lia
theorem ar_191 {x0 x1 : Nat} (h0 : (x0 : Nat) ≠ x1) (h1 : (x0 : Nat) ≤ x1) : ((max (x0 + 1) x1) : Nat) = x1 := by lia
theorem ar_192 {x0 x1 : Nat} : (1 : Nat) ≤ (max (x0 + 1) x1) := by lia
theorem ar_193 {x0 x1 : Nat} (h0 : (x0 : Nat) ≠ x1) (h1 : (x0 : Nat) ≤ x1) : ((max (x0 + 1) x1) : Nat) ≤ x1 := by lia
theorem ar_196 {x0 x1 x2 : Nat} (h0 : (((x1 + (x2 + 1)) - (0 + 1)) : Nat) ≤ x0) (h1 : (x0 : Nat) < (x1 + (x2 + 1))) : (x0 : Nat) = ((x1 + (x2 + 1)) - 1) := by lia
theorem ar_197 {x0 x1 x2 : Nat} (h0 : ((x2 + 1) : Nat) ≤ x1) : (x0 : Nat) ≤ ((x0 + x1) - (x2 + 1)) := by omega
theorem ar_198 {x0 : Nat} : ((0 + 1) : Nat) ≤ (x0 + 1) := by exact Nat.le_add_left (0 + 1) x0
theorem ar_200 {x0 x1 : Nat} (h0 : ((x0 + 1) : Nat) ≤ x1) : (((x0 + 1) + 1) : Nat) ≤ (x1 + 1) := by simp +arith at * <;> first | assumption | omega
theorem ar_201 {x0 x1 : Nat} : (((x0 + (x1 + 1)) - 1) : Nat) = (x0 + x1) := by simp +arith at * <;> first | assumption | omega
theorem ar_202 {x0 x1 x2 x3 : Nat} (h0 : (((x0 + (x1 + 1)) - ((x2 + 1) + 1)) : Nat) ≤ x3) : (((x0 + x1) - (x2 + 1)) : Nat) ≤ x3 := by simp +arith at * <;> first | assumption | omega
theorem ar_204 {x0 x1 x2 x3 : Nat} (h0 : (x3 : Nat) < (x0 + x2)) (h1 : (x0 : Nat) ≤ x1) (h2 : (x1 : Nat) ≤ x3) : (((x0 : Nat) ≤ x1) ∧ ((x1 : Nat) < (x0 + x2))) := by lia
theorem ar_205 {x0 x1 x2 x3 : Nat} (h0 : (x1 : Nat) < (x0 + x2)) (h1 : (x0 : Nat) ≤ x3) (h2 : (x3 : Nat) ≤ x1) : (((x0 : Nat) ≤ x1) ∧ ((x1 : Nat) < (x0 + x2))) := by lia
theorem ar_206 {x0 x1 x2 : Nat} (h0 : (x2 : Nat) < (x0 + x1)) : (x0 : Nat) ≤ (((x0 + (x0 + x1)) - 1) - x2) := by exact Nat.le_sub_of_add_le (Nat.le_sub_one_of_lt (Nat.add_lt_add_left h0 x0))
theorem ar_207 {x0 x1 x2 x3 : Nat} (h0 : (x3 : Nat) ≤ x2) : ((((x0 + (x0 + x1)) - 1) - x2) : Nat) ≤ (((x0 + (x0 + x1)) - 1) - x3) := by exact Nat.sub_le_sub_left h0 (x0 + (x0 + x1) - 1)
theorem ar_208 {x0 x1 x2 : Nat} (h0 : (1 : Nat) ≤ x1) (h1 : (x0 : Nat) ≤ x2) : ((((x0 + (x0 + x1)) - 1) - x2) : Nat) < (x0 + x1) := by omega
theorem ar_209 {x0 x1 : Nat} (h0 : (1 : Nat) ≤ x1) : (1 : Nat) ≤ (max x0 x1) := by lia
theorem ar_210 {x0 x1 : Nat} (h0 : (x0 : Nat) ≤ x1) : ((max x0 x1) : Nat) ≤ x1 := by lia
theorem ar_213 {x0 x1 x2 x3 : Nat} (h0 : ((x0 + x3) : Nat) ≤ x2) (h1 : (1 : Nat) ≤ x3) (h2 : (x1 : Nat) ≤ x3) : (((x0 + x1) - 1) : Nat) < x2 := by omega
theorem ar_214 {z0 z1 z2 : Int} (h0 : (z2 : Int) ≤ z0) (h1 : (z0 : Int) ≤ z1) (h2 : ¬ ((z2 : Int) < z1)) : (z0 : Int) = z1 := by lia
theorem ar_216 {x0 : Nat} (h0 : (1 : Nat) ≤ x0) (h1 : ¬ ((x0 : Nat) > 1)) : (x0 : Nat) = 1 := by lia
theorem ar_217 {x0 x1 x2 x3 x4 : Nat} (h0 : (x1 : Nat) < (x2 + (min (max x3 1) x4))) (h1 : (x2 : Nat) ≤ x0) (h2 : (x0 : Nat) ≤ x1) (h3 : (x1 : Nat) ≥ (x2 + x3)) : (x0 : Nat) = x1 := by lia
theorem ar_218 {x0 x1 : Nat} : ((min (max (max x0 1) x1) x1) : Nat) = x1 := by lia
theorem ar_219 {x0 x1 : Nat} (h0 : (x0 : Nat) < x1) : ((min x0 x1) : Nat) = x0 := by lia
theorem ar_220 {x0 : Nat} : (x0 : Nat) ≤ x0 := by simp +arith at * <;> first | assumption | omega
theorem ar_221 {x0 : Nat} : ((x0 + 0) : Nat) ≤ (0 + x0) := by exact Nat.le_add_left (x0 + 0) 0
theorem ar_222 {x0 x1 : Nat} (h0 : (x1 : Nat) < (x0 + 0)) : ¬ ((x0 : Nat) ≤ x1) := by simp +arith at * <;> first | assumption | omega
theorem ar_223 {x0 x1 x2 : Nat} (h0 : (x2 : Nat) < (x0 + x1)) : ¬ (((x0 + x1) : Nat) ≤ x2) := by simp +arith at * <;> first | assumption | omega
theorem ar_224 {x0 x1 x2 : Nat} (h0 : (x1 : Nat) = ((x0 + x2) / 2)) (h1 : (x0 : Nat) ≤ x2) : (x0 : Nat) ≤ x1 := by lia
theorem ar_225 {x0 x1 x2 : Nat} (h0 : (x0 : Nat) = ((x2 + x1) / 2)) (h1 : ¬ ((x2 : Nat) ≥ x1)) : (x0 : Nat) < x1 := by lia
theorem ar_226 {x0 x1 x2 x3 x4 x5 : Nat} (h0 : ((x0 + x3) : Nat) ≤ x2) (h1 : (x4 : Nat) < x3) (h2 : (x1 : Nat) < x5) (h3 : (x5 : Nat) ≤ x4) : ((x0 + x1) : Nat) < x2 := by lia
theorem ar_227 {x0 x1 x2 x3 : Nat} (h0 : (x1 : Nat) < x3) (h1 : (x3 : Nat) ≤ x2) : ((x0 + x1) : Nat) < (x0 + x2) := by lia
theorem ar_228 {x0 x1 x2 : Nat} (h0 : (x2 : Nat) ≤ x1) : (((x0 + x1) - ((x0 + x1) - (x0 + x2))) : Nat) = (x0 + x2) := by exact Nat.sub_sub_self (Nat.add_le_add_left h0 x0)
theorem ar_229 {x0 x1 x2 : Nat} : (((x0 + x1) - (x0 + x2)) : Nat) ≤ (x0 + x1) := by exact Nat.sub_le (x0 + x1) (x0 + x2)
theorem ar_230 {x0 x1 x2 : Nat} (h0 : (x0 : Nat) < x1) : ¬ ((x0 : Nat) = (x1 + x2)) := by lia
theorem ar_231 {x0 x1 x2 x3 : Nat} (h0 : (x2 : Nat) < x0) : ¬ (((((x0 + x1) : Nat) < x2) ∧ ((x2 : Nat) ≤ (x0 + x3)))) := by lia
theorem ar_234 {x0 : Nat} (h0 : (64 : Nat) ≤ x0) : (x0 : Nat) = ((x0 - 2) + 2) := by lia
theorem ar_237 {x0 x1 : Nat} (h0 : (x1 : Nat) = ((x0 / 2) + (x0 % 2))) : (x0 : Nat) ≤ (2 * x1) := by lia
theorem ar_238 {x0 x1 : Nat} (h0 : (64 : Nat) ≤ x1) (h1 : (x0 : Nat) = ((x1 / 2) + (x1 % 2))) : (x0 : Nat) < x1 := by lia
theorem ar_239 {x0 x1 : Nat} (h0 : (64 : Nat) ≤ x1) (h1 : (x0 : Nat) = ((x1 / 2) + (x1 % 2))) : (1 : Nat) ≤ x0 := by lia
theorem ar_240 {x0 x1 : Nat} (h0 : (x1 : Nat) < x0) : ¬ ((0 : Nat) ≥ x0) := by lia
theorem ar_241 {x0 x1 : Nat} (h0 : (x1 : Nat) < x0) : (1 : Nat) ≤ x0 := by lia
theorem ar_242 {x0 x1 : Nat} (h0 : (x1 : Nat) < x0) : ((min (x0 - 0) x1) : Nat) = x1 := by lia
theorem ar_243 {x0 x1 : Nat} : ((min (x0 - 0) x1) : Nat) ≤ x0 := by exact Nat.min_le_left (x0 - 0) x1
theorem ar_244 {x0 x1 : Nat} (h0 : (x0 : Nat) < x1) : (x0 : Nat) ≤ (min (x1 - 0) x0) := by lia
theorem ar_245 {x0 x1 x2 : Nat} (h0 : (x0 : Nat) ≤ (x1 - x2)) : (x0 : Nat) ≤ x1 := by omega
theorem ar_246 {x0 x1 : Nat} (h0 : (x0 : Nat) ≤ x1) : ((x0 + (x1 - x0)) : Nat) ≤ x1 := by lia
theorem ar_248 {x0 x1 x2 : Nat} (h0 : (x1 : Nat) < x2) (h1 : (x2 : Nat) ≤ (2 * x1)) (h2 : (x1 : Nat) ≤ x0) : (0 : Nat) < x0 := by lia
theorem ar_249 {x0 x1 x2 : Nat} (h0 : (x1 : Nat) < x2) (h1 : (x0 : Nat) = (x2 - x1)) : (0 : Nat) < x0 := by lia
theorem ar_250 {x0 x1 x2 : Nat} (h0 : (x1 : Nat) = (x2 - x0)) (h1 : (x0 : Nat) ≤ x2) : ((x0 + x1) : Nat) = x2 := by lia
theorem ar_251 {x0 x1 x2 : Nat} (h0 : (x2 : Nat) < (0 + x1)) (h1 : (x0 : Nat) ≤ x2) : (x0 : Nat) < x1 := by lia
theorem ar_252 {x0 x1 : Nat} (h0 : (x0 : Nat) < (0 + x1)) : (x0 : Nat) < x1 := by simp +arith at * <;> first | assumption | omega
theorem ar_258 {x0 : Nat} (h0 : (64 : Nat) ≤ x0) : ¬ ((x0 : Nat) < 2) := by lia
theorem ar_259 {x0 : Nat} (h0 : (x0 : Nat) < 128) : (x0 : Nat) ≤ (16777216 + 1) := by lia
theorem ar_260 {x0 x1 x2 : Nat} (h0 : ((x0 + (x1 + 1)) : Nat) ≤ x2) : (((x0 + 1) + x1) : Nat) ≤ x2 := by simp +arith at * <;> first | assumption | omega
theorem ar_262 {x0 x1 x2 x3 : Nat} (h0 : (x0 : Nat) < (x1 + x3)) (h1 : (x3 : Nat) = x2) (h2 : (x1 : Nat) ≤ x0) : ((x0 - x1) : Nat) < x2 := by lia
theorem ar_263 {x0 x1 x2 : Nat} (h0 : ((x0 - x2) : Nat) = (x1 - x2)) (h1 : (x2 : Nat) ≤ x0) (h2 : (x2 : Nat) ≤ x1) : (x0 : Nat) = x1 := by rw [← Nat.sub_add_cancel h1, h0, Nat.sub_add_cancel h2]
theorem ar_265 {x0 : Nat} : ¬ ((((x0 : Nat) : Int) : Int) < (0 : Int)) := by exact Int.not_ofNat_neg x0
theorem ar_266 {x0 x1 : Nat} (h0 : (x0 : Nat) ≤ x1) : ((min ((x0 : Nat) : Int) ((x1 : Nat) : Int)) : Int) = ((x0 : Nat) : Int) := by lia
theorem ar_268 {x0 x1 x2 : Nat} (h0 : (x1 : Nat) ≤ x2) : ((min x0 x1) : Nat) ≤ x2 := by lia
theorem ar_269 {x0 : Nat} : ((Int.toNat ((0 : Int) + (((x0 : Nat) : Int) * (1 : Int)))) : Nat) = (0 + x0) := by simp +arith at * <;> first | assumption | omega
theorem ar_271 {x0 : Nat} {z0 : Int} (h0 : ((((0 : Int) : Int) ≤ z0) ∧ ((((z0 : Int) < ((x0 : Nat) : Int)) ∧ ((x0 : Nat) ≤ 1000))))) : (z0 : Int) = (((Int.toNat z0) : Nat) : Int) := by lia
theorem ar_272 {x0 x1 x2 : Nat} (h0 : ((((0 : Int) : Int) ≤ ((x0 : Nat) : Int)) ∧ ((((((x0 : Nat) : Int) : Int) < ((x2 : Nat) : Int)) ∧ ((x2 : Nat) ≤ 1000))))) (h1 : (x2 : Nat) = x1) : (x0 : Nat) < x1 := by omega
theorem ar_273 {x0 x1 x2 : Nat} (h0 : ((((0 : Int) : Int) ≤ ((x1 : Nat) : Int)) ∧ ((((((x1 : Nat) : Int) : Int) < ((x2 : Nat) : Int)) ∧ ((x2 : Nat) ≤ 1000))))) (h1 : (x2 : Nat) = x0) : (x0 : Nat) ≤ 1000000 := by lia
theorem ar_275 {x0 : Nat} (h0 : (x0 : Nat) ≤ 1000000) : (x0 : Nat) ≤ 1000000 := by omega
theorem ar_276 {x0 x1 x2 : Nat} (h0 : (x1 : Nat) < 128) (h1 : (x2 : Nat) = x0) (h2 : (x2 : Nat) = x1) : (x0 : Nat) ≤ 1000000 := by lia
theorem ar_284 {x0 x1 : Nat} (h0 : (x1 : Nat) = x0) (h1 : (x1 : Nat) ≤ 63) : (x0 : Nat) ≤ 1000000 := by lia
theorem ar_285 {x0 x1 : Nat} (h0 : (x0 : Nat) = 0) (h1 : (x1 : Nat) = 0) : (x0 : Nat) = x1 := by lia
theorem ar_286 {x0 : Nat} {z0 z1 : Int} (h0 : (x0 : Nat) < (Int.toNat (z1 - z0))) : (((z0 : Int) ≤ (z0 + ((x0 : Nat) : Int))) ∧ (((z0 + ((x0 : Nat) : Int)) : Int) < z1)) := by simp +arith at * <;> first | assumption | omega
theorem ar_288 {z0 z1 : Int} (h0 : ((((- (1000000 : Int)) : Int) ≤ z1) ∧ ((((z1 : Int) ≤ (1000000 : Int)) ∧ ((((z0 : Int) ≤ (1000000 : Int)) ∧ (((((- (1000000 : Int)) : Int) ≤ z0) ∧ (((z0 - z1) : Int) ≤ (1000000 : Int)))))))))) : ((z0 - z1) : Int) ≤ (1000000 : Int) := by omega
theorem ar_289 {x0 x1 : Nat} : (((x0 + 1) + x1) : Nat) = (x0 + (x1 + 1)) := by simp +arith at * <;> first | assumption | omega
theorem ar_290 {x0 : Nat} {z0 z1 : Int} (h0 : (((x0 : Nat) : Int) : Int) = z1) (h1 : ((0 : Int) : Int) ≤ z0) : (((((Int.toNat z0) : Nat) : Int) + ((x0 : Nat) : Int)) : Int) = (z0 + z1) := by lia
theorem ar_291 {x0 : Nat} {z0 z1 : Int} (h0 : (((x0 : Nat) : Int) : Int) < (z0 + z1)) (h1 : (z0 : Int) ≤ ((x0 : Nat) : Int)) : ((((x0 - (Int.toNat z0)) : Nat) : Int) : Int) < z1 := by omega
theorem ar_292 {x0 : Nat} {z0 : Int} (h0 : (z0 : Int) ≤ ((x0 : Nat) : Int)) : (z0 : Int) ≤ ((x0 : Nat) : Int) := by omega
theorem ar_293 {x0 : Nat} {z0 : Int} (h0 : ((0 : Int) : Int) ≤ z0) (h1 : (z0 : Int) ≤ ((x0 : Nat) : Int)) : ((((x0 - (Int.toNat z0)) : Nat) : Int) : Int) = (((x0 : Nat) : Int) - z0) := by lia
theorem ar_295 {x0 : Nat} {z0 : Int} (h0 : ¬ ((z0 : Int) ≤ ((x0 : Nat) : Int))) : (x0 : Nat) < (Int.toNat z0) := by simp +arith at * <;> first | assumption | omega
theorem ar_296 {z0 z1 z2 z3 : Int} (h0 : ((0 : Int) : Int) ≤ z3) (h1 : (z2 : Int) = (z0 + (z1 + z3))) : ((z0 + z1) : Int) ≤ z2 := by lia
theorem ar_298 {x0 x1 x2 x3 x4 x5 : Nat} (h0 : (((x1 : Nat) = x2) ∨ ((((x1 : Nat) = x3) ∨ ((((x1 : Nat) = x4) ∨ ((x1 : Nat) = x5))))))) (h1 : (x2 : Nat) < x3) (h2 : (x3 : Nat) < x4) (h3 : (x4 : Nat) < x5) (h4 : (x0 : Nat) ≤ x2) : (x0 : Nat) ≤ x1 := by (rcases h0 with rfl | rfl | rfl | rfl; exact h4; exact Nat.le_trans h4 (Nat.le_of_lt h1); exact Nat.le_trans h4 (Nat.le_of_lt (Nat.lt_trans h1 h2)); exact Nat.le_trans h4 (Nat.le_of_lt (Nat.lt_trans h1 (Nat.lt_trans h2 h3))))
theorem ar_299 {z0 : Int} (h0 : ((((0 : Int) : Int) ≤ z0) ∧ ((z0 : Int) < (4 : Int)))) : ((((0 : Int) : Int) ≤ z0) ∧ ((z0 : Int) < (1000000 : Int))) := by lia
theorem ar_300 {z0 z1 : Int} : ((0 : Int) : Int) ≤ ((z0 + ((13 : Int) * z1)) % (1000003 : Int)) := by lia
theorem ar_301 {z0 : Int} (h0 : ((0 : Int) : Int) < z0) : ((0 : Int) : Int) ≤ z0 := by lia
theorem ar_302 {z0 : Int} (h0 : ((0 : Int) : Int) < z0) : (z0 : Int) ≠ (0 : Int) := by lia
theorem ar_303 : (0 : Nat) ≤ 1000000 := by simp +arith at * <;> first | assumption | omega
theorem ar_305 {x0 : Nat} (h0 : (0 : Nat) < x0) : ((0 : Int) : Int) < ((x0 : Nat) : Int) := by simp +arith at * <;> first | assumption | omega
theorem ar_306 {x0 : Nat} {z0 : Int} (h0 : ((((0 : Int) : Int) ≤ z0) ∧ ((z0 : Int) < ((x0 : Nat) : Int)))) : ((Int.toNat z0) : Nat) < x0 := by omega
theorem ar_308 {x0 : Nat} (h0 : (0 : Nat) < x0) (h1 : (x0 : Nat) ≤ 1000) : ((((0 : Int) : Int) < ((x0 : Nat) : Int)) ∧ ((((x0 : Nat) : Int) : Int) < (1000000000 : Int))) := by lia
theorem ar_310 {z0 : Int} (h0 : ((((0 : Int) : Int) ≤ z0) ∧ ((z0 : Int) < (4 : Int)))) : (((z0 : Int) = (0 : Int)) ∨ ((((z0 : Int) = (1 : Int)) ∨ ((((z0 : Int) = (2 : Int)) ∨ ((z0 : Int) = (3 : Int))))))) := by lia
theorem ar_311 {z0 : Int} (h0 : ((((0 : Int) : Int) ≤ z0) ∧ ((z0 : Int) < (6 : Int)))) : ((((- (1000000 : Int)) : Int) ≤ (0 : Int)) ∧ (((((0 : Int) : Int) ≤ (1000000 : Int)) ∧ ((((((1 : Int) + z0) : Int) ≤ (1000000 : Int)) ∧ (((((- (1000000 : Int)) : Int) ≤ ((1 : Int) + z0)) ∧ (((((1 : Int) + z0) - (0 : Int)) : Int) ≤ (1000000 : Int))))))))) := by lia
theorem ar_312 {z0 z1 : Int} (h0 : ((((0 : Int) : Int) ≤ z0) ∧ ((z0 : Int) < ((1 : Int) + z1)))) : ((0 : Int) : Int) ≤ ((10 : Int) + z0) := by lia
theorem ar_313 {z0 z1 : Int} (h0 : ((((0 : Int) : Int) ≤ z0) ∧ ((z0 : Int) < ((1 : Int) + z1)))) (h1 : ((((0 : Int) : Int) ≤ z1) ∧ ((z1 : Int) < (6 : Int)))) : (((10 : Int) + z0) : Int) < (1000000 : Int) := by lia
theorem ar_314 {z0 : Int} (h0 : ((((0 : Int) : Int) ≤ z0) ∧ ((z0 : Int) ≤ (9 : Int)))) : ¬ (((z0 + (1 : Int)) : Int) = (0 : Int)) := by lia
theorem ar_315 {z0 : Int} (h0 : ((((0 : Int) : Int) ≤ z0) ∧ ((z0 : Int) < (6 : Int)))) : (((1 : Nat) ≤ (Int.toNat ((1 : Int) + z0))) ∧ ((((1 : Int) + z0) : Int) ≤ (6 : Int))) := by lia
theorem ar_316 {z0 : Int} (h0 : ((((0 : Int) : Int) ≤ z0) ∧ ((z0 : Int) ≤ (9 : Int)))) : ((0 : Int) : Int) < (z0 + (1 : Int)) := by lia
theorem ar_317 {z0 z1 : Int} (h0 : ((((0 : Int) : Int) ≤ z0) ∧ ((z0 : Int) < (z1 + (1 : Int))))) (h1 : ((((0 : Int) : Int) ≤ z1) ∧ ((z1 : Int) ≤ (9 : Int)))) : ((((0 : Int) : Int) ≤ z0) ∧ ((z0 : Int) ≤ (9 : Int))) := by lia
theorem ar_318 {x0 : Nat} (h0 : (x0 : Nat) ≤ 6) : (x0 : Nat) < 1000000 := by lia
theorem ar_319 {z0 : Int} (h0 : ((((0 : Int) : Int) ≤ z0) ∧ ((z0 : Int) ≤ (9 : Int)))) : ((((0 : Int) : Int) ≤ z0) ∧ ((((z0 : Int) ≤ (1000000 : Int)) ∧ ((z0 : Int) < (1000000 : Int))))) := by lia
theorem ar_320 {x0 x1 : Nat} {z0 z1 z2 : Int} (h0 : ((((0 : Int) : Int) ≤ z1) ∧ (((((0 : Int) : Int) ≤ z0) ∧ (((z1 + z0) : Int) ≤ z2))))) (h1 : ((((0 : Int) : Int) ≤ z2) ∧ ((z2 : Int) ≤ ((9 : Int) * ((x1 : Nat) : Int))))) (h2 : (((x0 : Nat) : Int) : Int) = z1) (h3 : (x1 : Nat) ≤ 6) : ((x0 + (Int.toNat z0)) : Nat) ≤ 1000000 := by lia
theorem ar_324 {x0 x1 : Nat} : ((x0 + (x1 + 1)) : Nat) = ((x0 + 1) + x1) := by simp +arith at * <;> first | assumption | omega
theorem ar_325 {x0 : Nat} (h0 : (x0 : Nat) < 1000) : (x0 : Nat) < 1000000 := by lia
theorem ar_326 {z0 : Int} (h0 : ((((0 : Int) : Int) ≤ z0) ∧ ((z0 : Int) < (1000 : Int)))) : ((0 : Int) : Int) ≤ ((20 : Int) + z0) := by lia
theorem ar_327 {z0 : Int} (h0 : ((((0 : Int) : Int) ≤ z0) ∧ ((z0 : Int) < (1000 : Int)))) : (((20 : Int) + z0) : Int) < (1000000 : Int) := by lia
theorem ar_328 {x0 : Nat} : ((0 : Int) : Int) ≤ ((30 : Int) + ((x0 : Nat) : Int)) := by exact Int.zero_le_ofNat (30 + x0)
theorem ar_329 {x0 x1 : Nat} (h0 : (x1 : Nat) < 1000) (h1 : (x0 : Nat) < x1) : (((30 : Int) + ((x0 : Nat) : Int)) : Int) < (1000000 : Int) := by lia
theorem ar_330 {x0 x1 x2 : Nat} (h0 : (x1 : Nat) < 1000) (h1 : (x2 : Nat) < x1) (h2 : (x0 : Nat) ≤ x2) : (x0 : Nat) < 1000000 := by lia
theorem ar_331 {x0 x1 : Nat} (h0 : (x0 : Nat) ≤ x1) : (x0 : Nat) ≤ x1 := by omega
theorem ar_332 {x0 x1 : Nat} {z0 : Int} (h0 : (z0 : Int) = ((x1 : Nat) : Int)) (h1 : (x1 : Nat) < x0) : ((((0 : Int) : Int) ≤ z0) ∧ ((z0 : Int) < ((x0 : Nat) : Int))) := by lia
theorem ar_334 {x0 : Nat} : ((x0 + 1) : Nat) ≠ x0 := by exact Ne.symm (Nat.ne_add_one x0)
theorem ar_335 {x0 : Nat} : ((0 : Int) : Int) ≤ ((100 : Int) + ((x0 : Nat) : Int)) := by exact Int.zero_le_ofNat (100 + x0)
theorem ar_336 {x0 x1 : Nat} (h0 : (x1 : Nat) < 1000) (h1 : (x0 : Nat) < x1) : (((100 : Int) + ((x0 : Nat) : Int)) : Int) < (1000000 : Int) := by lia
theorem ar_338 {x0 x1 : Nat} (h0 : (x0 : Nat) < x1) : ((((0 : Int) : Int) ≤ ((x0 : Nat) : Int)) ∧ ((((x0 : Nat) : Int) : Int) < ((x1 : Nat) : Int))) := by simp +arith at * <;> first | assumption | omega
theorem ar_339 {x0 : Nat} : (x0 : Nat) ≠ (x0 + 1) := by simp +arith at * <;> first | assumption | omega
theorem ar_340 {x0 : Nat} {z0 : Int} (h0 : ((((0 : Int) : Int) ≤ z0) ∧ ((z0 : Int) < ((x0 : Nat) : Int)))) : ¬ (((z0 + (1 : Int)) : Int) = (0 : Int)) := by omega
theorem ar_341 {x0 : Nat} {z0 : Int} (h0 : ((((0 : Int) : Int) ≤ z0) ∧ ((z0 : Int) < ((x0 : Nat) : Int)))) : ((0 : Int) : Int) < (z0 + (1 : Int)) := by omega
theorem ar_342 {x0 : Nat} {z0 z1 : Int} (h0 : ((((0 : Int) : Int) ≤ z1) ∧ ((z1 : Int) < ((x0 : Nat) : Int)))) (h1 : ((((0 : Int) : Int) ≤ z0) ∧ ((z0 : Int) < (z1 + (1 : Int))))) : ((((0 : Int) : Int) ≤ z0) ∧ ((z0 : Int) < ((x0 : Nat) : Int))) := by lia
theorem ar_343 {x0 x1 x2 : Nat} (h0 : (x2 : Nat) ≤ (2 * x1)) (h1 : (x0 : Nat) ≤ (x2 + 1)) : (x0 : Nat) ≤ ((2 * x1) + 1) := by lia
theorem ar_344 {x0 x1 x2 : Nat} (h0 : (x1 : Nat) < 1000) (h1 : (x2 : Nat) < x1) (h2 : (x0 : Nat) ≤ (2 * x2)) : (x0 : Nat) < 1000000 := by lia
theorem ar_345 {x0 : Nat} (h0 : (0 : Nat) < x0) : ((((0 : Int) : Int) ≤ (0 : Int)) ∧ (((0 : Int) : Int) < ((x0 : Nat) : Int))) := by simp +arith at * <;> first | assumption | omega
theorem ar_346 {x0 x1 x2 x3 : Nat} (h0 : (x1 : Nat) < 1000) (h1 : (x2 : Nat) < x1) (h2 : (x3 : Nat) ≤ (2 * x2)) (h3 : (x0 : Nat) ≤ (x3 + 1)) : (x0 : Nat) < 1000000 := by lia
theorem ar_347 {x0 x1 x2 x3 : Nat} (h0 : (x2 : Nat) ≤ (2 * x1)) (h1 : (x3 : Nat) ≤ (x2 + 1)) (h2 : (x0 : Nat) ≤ (x3 + 1)) : (x0 : Nat) ≤ (2 * (x1 + 1)) := by lia
theorem ar_348 {x0 x1 x2 : Nat} (h0 : (x2 : Nat) ≤ (2 * x1)) (h1 : (x0 : Nat) ≤ (x2 + 1)) : (x0 : Nat) ≤ (2 * (x1 + 1)) := by lia
theorem ar_350 {x0 x1 : Nat} : (((x0 : Nat) : Int) : Int) < (((x0 : Nat) : Int) + (((x1 : Nat) : Int) + (1 : Int))) := by exact Int.lt_add_succ (↑x0) x1
theorem ar_351 {x0 x1 : Nat} {z0 : Int} (h0 : ((((((x0 : Nat) : Int) + (1 : Int)) : Int) ≤ z0) ∧ ((z0 : Int) < ((((x0 : Nat) : Int) + (1 : Int)) + ((x1 : Nat) : Int))))) : (((((x0 : Nat) : Int) : Int) ≤ z0) ∧ ((z0 : Int) < (((x0 : Nat) : Int) + (((x1 : Nat) : Int) + (1 : Int))))) := by lia
theorem ar_352 {x0 : Nat} {z0 : Int} (h0 : ((((0 : Int) : Int) ≤ z0) ∧ ((z0 : Int) < ((0 : Int) + ((x0 : Nat) : Int))))) (h1 : (x0 : Nat) ≤ 6) : ((((0 : Int) : Int) ≤ z0) ∧ ((z0 : Int) < (1000 : Int))) := by lia
theorem ar_353 {x0 x1 : Nat} {z0 : Int} (h0 : ((((0 : Int) : Int) ≤ z0) ∧ ((z0 : Int) ≤ ((9 : Int) * ((x1 : Nat) : Int))))) (h1 : (((x0 : Nat) : Int) : Int) = z0) (h2 : (x1 : Nat) ≤ 6) : (x0 : Nat) < 1000 := by lia
theorem ar_354 {x0 : Nat} {z0 : Int} (h0 : ((((0 : Int) : Int) ≤ z0) ∧ ((z0 : Int) < ((0 : Int) + ((x0 : Nat) : Int))))) : ((((0 : Int) : Int) ≤ z0) ∧ ((z0 : Int) < ((x0 : Nat) : Int))) := by lia
theorem ar_355 {x0 : Nat} (h0 : (x0 : Nat) ≤ 6) : (x0 : Nat) < 1000 := by lia
theorem ar_356 {x0 : Nat} (h0 : (1 : Nat) ≤ x0) : (0 : Nat) < x0 := by simp +arith at * <;> first | assumption | omega
theorem ar_357 {z0 : Int} (h0 : ((((0 : Int) : Int) ≤ z0) ∧ ((z0 : Int) < (3 : Int)))) : (((z0 : Int) = (0 : Int)) ∨ ((((z0 : Int) = (1 : Int)) ∨ ((z0 : Int) = (2 : Int))))) := by lia
theorem ar_358 {z0 : Int} (h0 : ((((0 : Int) : Int) ≤ z0) ∧ ((z0 : Int) < (2 : Int)))) : ((((0 : Int) : Int) < ((3 : Int) + ((9 : Int) * z0))) ∧ ((((3 : Int) + ((9 : Int) * z0)) : Int) ≤ (12 : Int))) := by lia
theorem ar_359 {z0 : Int} (h0 : ((((0 : Int) : Int) < z0) ∧ ((z0 : Int) ≤ (12 : Int)))) : ((0 : Int) : Int) < z0 := by lia
theorem ar_362 {z0 : Int} (h0 : ((((0 : Int) : Int) < z0) ∧ ((z0 : Int) ≤ (12 : Int)))) : ¬ ((z0 : Int) = (0 : Int)) := by lia
theorem ar_363 {z0 z1 : Int} (h0 : ((((0 : Int) : Int) < z1) ∧ ((z1 : Int) ≤ (12 : Int)))) (h1 : ((((0 : Int) : Int) ≤ z0) ∧ ((z0 : Int) < z1))) : ((Int.toNat z0) : Nat) < 1000000 := by lia
theorem ar_364 {x0 x1 x2 : Nat} {z0 : Int} (h0 : ((((0 : Int) : Int) ≤ z0) ∧ ((z0 : Int) ≤ ((9 : Int) * ((x1 : Nat) : Int))))) (h1 : (((x2 : Nat) : Int) : Int) = z0) (h2 : (x0 : Nat) ≤ (2 * x2)) (h3 : (x1 : Nat) ≤ 6) : (x0 : Nat) ≤ (108 + 0) := by lia
theorem ar_365 {x0 : Nat} : ((0 : Int) : Int) ≤ ((200 : Int) + ((x0 : Nat) : Int)) := by exact Int.zero_le_ofNat (200 + x0)
theorem ar_366 {x0 : Nat} {z0 z1 : Int} (h0 : ((((0 : Int) : Int) < z0) ∧ ((z0 : Int) ≤ (12 : Int)))) (h1 : ((((0 : Int) : Int) ≤ z1) ∧ ((z1 : Int) < z0))) (h2 : (x0 : Nat) < (Int.toNat z1)) : (((200 : Int) + ((x0 : Nat) : Int)) : Int) < (1000000 : Int) := by lia
theorem ar_367 {x0 : Nat} (h0 : (1 : Nat) ≤ x0) : (((x0 : Nat) : Int) : Int) ≠ (0 : Int) := by lia
theorem ar_368 {x0 : Nat} (h0 : (1 : Nat) ≤ x0) : ((0 : Int) : Int) < ((x0 : Nat) : Int) := by simp +arith at * <;> first | assumption | omega
theorem ar_369 {z0 : Int} (h0 : ((((0 : Int) : Int) ≤ z0) ∧ ((z0 : Int) < (2 : Int)))) : (((z0 : Int) = (0 : Int)) ∨ ((z0 : Int) = (1 : Int))) := by lia
theorem ar_370 {x0 : Nat} : (x0 : Nat) ≤ (x0 + 3) := by simp +arith at * <;> first | assumption | omega
theorem ar_371 {x0 x1 : Nat} {z0 z1 : Int} (h0 : ((((0 : Int) : Int) < z0) ∧ ((z0 : Int) ≤ (12 : Int)))) (h1 : ((((0 : Int) : Int) ≤ z1) ∧ ((z1 : Int) < z0))) (h2 : (x1 : Nat) < (Int.toNat z1)) (h3 : (x0 : Nat) ≤ (108 + x1)) : (x0 : Nat) < 1000000 := by lia
theorem ar_372 {x0 : Nat} : ((x0 + 3) : Nat) ≠ x0 := by simp +arith at * <;> first | assumption | omega
theorem ar_373 {x0 : Nat} : ((x0 + 3) : Nat) ≠ (x0 + 2) := by simp +arith at * <;> first | assumption | omega
theorem ar_374 {x0 : Nat} : ((x0 + 3) : Nat) ≠ ((x0 + 3) + 1) := by simp +arith at * <;> first | assumption | omega
theorem ar_375 {x0 x1 x2 : Nat} (h0 : (x2 : Nat) ≤ (108 + x1)) (h1 : (x0 : Nat) ≤ (x2 + 1)) : (x0 : Nat) ≤ (108 + (x1 + 1)) := by lia
theorem ar_376 {x0 : Nat} : (x0 : Nat) < (x0 + 2) := by simp +arith at * <;> first | assumption | omega
theorem ar_377 {x0 : Nat} : ((x0 + 2) : Nat) < (x0 + 3) := by exact Nat.lt_add_one (x0 + 2)
theorem ar_378 {x0 : Nat} : ((x0 + 3) : Nat) < ((x0 + 3) + 1) := by simp +arith at * <;> first | assumption | omega
theorem ar_379 {x0 x1 x2 : Nat} {z0 : Int} (h0 : ((((0 : Int) : Int) ≤ z0) ∧ ((z0 : Int) ≤ ((9 : Int) * ((x1 : Nat) : Int))))) (h1 : (((x2 : Nat) : Int) : Int) = z0) (h2 : (x1 : Nat) ≤ 6) (h3 : (x0 : Nat) ≤ x2) : (x0 : Nat) ≤ 54 := by lia
theorem ar_380 {x0 : Nat} {z0 z1 : Int} (h0 : ((((0 : Int) : Int) < z0) ∧ ((z0 : Int) ≤ (12 : Int)))) (h1 : ((((0 : Int) : Int) ≤ z1) ∧ ((z1 : Int) < z0))) (h2 : (x0 : Nat) ≤ (108 + (Int.toNat z1))) : (x0 : Nat) < 128 := by lia
theorem ar_381 {x0 : Nat} {z0 z1 : Int} (h0 : ((((0 : Int) : Int) ≤ z0) ∧ ((z0 : Int) < ((x0 : Nat) : Int)))) (h1 : (((x0 : Nat) : Int) : Int) = z1) : ((((0 : Int) : Int) ≤ z0) ∧ ((z0 : Int) < z1)) := by lia
theorem ar_382 {z0 z1 : Int} (h0 : ((((0 : Int) : Int) ≤ z0) ∧ ((z0 : Int) < z1))) : ((((Int.toNat z0) : Nat) : Int) : Int) < z1 := by lia
theorem ar_383 {z0 z1 : Int} (h0 : ((((0 : Int) : Int) ≤ z0) ∧ ((z0 : Int) < z1))) : ((((Int.toNat z0) : Nat) : Int) : Int) = z0 := by lia
theorem ar_384 {x0 x1 x2 x3 x4 : Nat} (h0 : ((x1 + 1) : Nat) = x4) (h1 : ((x4 + x3) : Nat) ≤ x0) (h2 : (x0 : Nat) ≤ (x4 + x2)) : (((x0 : Nat) ≤ (x1 + (x2 + (0 + 1)))) ∧ (((x1 + (x3 + 1)) : Nat) ≤ x0)) := by lia
theorem ar_387 {x0 x1 x2 x3 x4 x5 : Nat} (h0 : (0 : Nat) < x2) (h1 : (x1 : Nat) = (x3 + x2)) (h2 : (x4 : Nat) = 0) (h3 : (x3 : Nat) = x5) (h4 : (x0 : Nat) ≤ (x4 + x5)) : (x0 : Nat) < x1 := by lia
theorem ar_388 {x0 x1 : Nat} (h0 : ((x0 + x1) : Nat) < 128) : (x0 : Nat) < 128 := by lia
theorem ar_389 {x0 : Nat} (h0 : (0 : Nat) < x0) : ¬ ((((x0 : Nat) : Int) : Int) = (0 : Int)) := by lia
theorem ar_390 {x0 : Nat} : (x0 : Nat) ≤ (x0 + 1) := by simp +arith at * <;> first | assumption | omega
theorem ar_391 {x0 : Nat} : ((0 : Int) : Int) ≤ ((300 : Int) + ((x0 : Nat) : Int)) := by exact Int.zero_le_ofNat (300 + x0)
theorem ar_392 {x0 : Nat} (h0 : (x0 : Nat) < 128) : (((300 : Int) + ((x0 : Nat) : Int)) : Int) < (1000000 : Int) := by lia
theorem ar_393 {x0 : Nat} : ((x0 + 1) : Nat) ≠ (x0 + 3) := by simp +arith at * <;> first | assumption | omega
theorem ar_395 {x0 : Nat} (h0 : ¬ ((((63 : Nat) : Int) : Int) < ((x0 : Nat) : Int))) : (x0 : Nat) ≤ 63 := by lia
theorem ar_396 {x0 : Nat} (h0 : ¬ ((((63 : Nat) : Int) : Int) < ((x0 : Nat) : Int))) : (x0 : Nat) ≤ 1000 := by lia
theorem exL_e {α : Sort _} {p : α → Prop} {a' : α} : (∃ a, a' = a ∧ p a) = p a' := propext exists_eq_left'
theorem nzl_e {n : Nat} : (0 ≤ n) = True := eq_true (Nat.zero_le n)
open PySem
inductive AV where
  | none
  | bool (b : Bool)
  | int (i : Int)
  | tup (vs : List AV)
  | rng (lo hi : Int)
  | vals (i : Nat)
  | ref (i : Nat)
inductive AO where
  | list (vs : List AV)
  | dict (kvs : List (Int × AV))
abbrev Store := List AO
abbrev AEnv := Str → Option AV
noncomputable def upd (ρ : AEnv) (x : Str) (v : AV) : AEnv := fun y => if y = x then some v else ρ y
noncomputable def HK (h h' : Heap) : Prop := ∀ b o, h.get? b = some o → h'.get? b = some o
theorem HK.refl (h : Heap) : HK h h := fun _ _ e => e
theorem HK.trans {a b c : Heap} (x : HK a b) (y : HK b c) : HK a c := fun p o e => y p o (x p o e)
theorem HK.push (h : Heap) (o : Obj) : HK h (h.push o) := fun _ _ e => Heap.get?_push_of_some o e
abbrev tupObj (items : List Value) : Obj := { cls := .type "tuple", data := .seq items.toArray }
mutual
inductive VR (h : Heap) (α : Nat → Addr) (n : Nat) : AV → Value → Prop
  | none : VR h α n .none .none
  | bool (b : Bool) : VR h α n (.bool b) (.bool b)
  | int (i : Int) (t : Tok) : VR h α n (.int i) (.int i t)
  | tup {vs : List AV} {a : Addr} {items : List Value} : h.get? a = some (tupObj items) → VRs h α n vs items → VR h α n (.tup vs) (.ref a)
  | rng {lo hi : Int} {a : Addr} {t u v : Tok} : IsRange h a lo hi 1 t u v → VR h α n (.rng lo hi) (.ref a)
  | vals {i : Nat} {a : Addr} : i < n → h.IsValuesView a (α i) → VR h α n (.vals i) (.ref a)
  | ref {i : Nat} : i < n → VR h α n (.ref i) (.ref (α i))
inductive VRs (h : Heap) (α : Nat → Addr) (n : Nat) : List AV → List Value → Prop
  | nil : VRs h α n [] []
  | cons {v : AV} {x : Value} {vs : List AV} {xs : List Value} : VR h α n v x → VRs h α n vs xs → VRs h α n (v :: vs) (x :: xs)
end
noncomputable def Fixed (o : Obj) : Prop := (∃ vs, o.data = .fields vs) ∨ (o.cls = .type "tuple" ∧ ∃ xs n, o.data = .seq xs n)
noncomputable def Vis (o : Obj) : Prop := (o.cls = .type "tuple" ∧ ∃ xs n, o.data = .seq xs n) ∨ ((o.cls = .type "range" ∨ o.cls = .type "dict_values") ∧ ∃ vs, o.data = .fields vs)
theorem Vis.fixed {o : Obj} (h : Vis o) : Fixed o := h.elim .inr (fun h => .inl h.2)
noncomputable def FK (h h' : Heap) : Prop := ∀ b o, h.get? b = some o → Fixed o → h'.get? b = some o
theorem FK.refl (h : Heap) : FK h h := fun _ _ e _ => e
theorem FK.trans {a b c : Heap} (x : FK a b) (y : FK b c) : FK a c := fun p o e f => y p o (x p o e f) f
theorem HK.fk {h h' : Heap} (x : HK h h') : FK h h' := fun b o e _ => x b o e
noncomputable def VK (h h' : Heap) : Prop := ∀ b o, h.get? b = some o → Vis o → h'.get? b = some o
theorem VK.refl (h : Heap) : VK h h := fun _ _ e _ => e
theorem VK.trans {a b c : Heap} (x : VK a b) (y : VK b c) : VK a c := fun p o e f => y p o (x p o e f) f
theorem FK.vk {h h' : Heap} (x : FK h h') : VK h h' := fun b o e v => x b o e v.fixed
theorem HK.vk {h h' : Heap} (x : HK h h') : VK h h' := x.fk.vk
structure Up (h : Heap) (α : Nat → Addr) (n : Nat) (h' : Heap) (α' : Nat → Addr) (n' : Nat) : Prop where
  le : n ≤ n'
  agree : ∀ i, i < n → α' i = α i
  vk : VK h h'
theorem Up.refl (h : Heap) (α : Nat → Addr) (n : Nat) : Up h α n h α n := ⟨Nat.le_refl _, fun _ _ => rfl, VK.refl _⟩
theorem Up.trans {h h' h'' α α' α'' n n' n''} (x : Up h α n h' α' n') (y : Up h' α' n' h'' α'' n'') : Up h α n h'' α'' n'' :=
  ⟨Nat.le_trans x.le y.le, fun i hi => (y.agree i (Nat.lt_of_lt_of_le hi x.le)).trans (x.agree i hi), x.vk.trans y.vk⟩
theorem Up.view {h h' α α' n n'} (u : Up h α n h' α' n') {i : Nat} {a : Addr} (hi : i < n) (e : h.IsValuesView a (α i)) : h'.IsValuesView a (α' i) := by
  rw [u.agree _ hi]
  exact e.elim fun o e => ⟨o, u.vk _ _ e.1 (.inr ⟨.inr e.2.1, _, e.2.2⟩), e.2⟩
theorem VRs.nil_inv {h α n xs} (r : VRs h α n [] xs) : xs = [] := by cases r; rfl
theorem VRs.cons_inv {h α n v vs xs} (r : VRs h α n (v :: vs) xs) : ∃ x ys, xs = x :: ys ∧ VR h α n v x ∧ VRs h α n vs ys := by cases r with | cons a r => exact ⟨_, _, rfl, a, r⟩
theorem VR.up {h h' α α' n n'} (u : Up h α n h' α' n') {v : AV} {x : Value} (r : VR h α n v x) : VR h' α' n' v x :=
  VR.rec (motive_1 := fun v x _ => VR h' α' n' v x) (motive_2 := fun vs xs _ => VRs h' α' n' vs xs) .none .bool .int (fun e _ r => .tup (u.vk _ _ e (.inl ⟨rfl, _, _, rfl⟩)) r)
    (fun e => .rng (u.vk _ _ e (.inr ⟨.inl rfl, _, rfl⟩))) (fun hi e => .vals (Nat.lt_of_lt_of_le hi u.le) (u.view hi e)) (fun hi => u.agree _ hi ▸ .ref (Nat.lt_of_lt_of_le hi u.le)) .nil (fun _ _ a b => .cons a b) r
theorem VRs.up {h h' α α' n n'} (u : Up h α n h' α' n') {vs : List AV} {xs : List Value} (r : VRs h α n vs xs) : VRs h' α' n' vs xs := by
  induction vs generalizing xs with
  | nil => cases r.nil_inv; exact .nil
  | cons v vs ih => obtain ⟨x, ys, rfl, a, r⟩ := r.cons_inv; exact .cons (a.up u) (ih r)
theorem VRs.length {h α n} {vs : List AV} {xs : List Value} (r : VRs h α n vs xs) : vs.length = xs.length := by
  induction vs generalizing xs with
  | nil => cases r.nil_inv; rfl
  | cons v vs ih => obtain ⟨x, ys, rfl, a, r⟩ := r.cons_inv; exact congrArg Nat.succ (ih r)
theorem VRs.get {h α n} {vs : List AV} {xs : List Value} (r : VRs h α n vs xs) (i : Nat) (v) (e : vs[i]? = some v) : ∃ x, xs[i]? = some x ∧ VR h α n v x := by
  induction vs generalizing xs i with
  | nil => cases e
  | cons u vs ih =>
    obtain ⟨x, ys, rfl, a, r⟩ := r.cons_inv
    cases i with
    | zero => cases e; exact ⟨_, rfl, a⟩
    | succ i => exact ih r i e
theorem VRs.append {h α n} {vs : List AV} {xs : List Value} {ws ys} (r : VRs h α n vs xs) (q : VRs h α n ws ys) : VRs h α n (vs ++ ws) (xs ++ ys) := by
  induction vs generalizing xs with
  | nil => cases r.nil_inv; exact q
  | cons v vs ih => obtain ⟨x, ys, rfl, a, r⟩ := r.cons_inv; exact .cons a (ih r)
theorem VRs.take {h α n} {vs : List AV} {xs : List Value} (k : Nat) (r : VRs h α n vs xs) : VRs h α n (vs.take k) (xs.take k) := by
  induction vs generalizing xs k with
  | nil => cases r.nil_inv; rw [List.take_nil, List.take_nil]; exact .nil
  | cons v vs ih =>
    obtain ⟨x, ys, rfl, a, r⟩ := r.cons_inv
    cases k with
    | zero => exact .nil
    | succ k => exact .cons a (ih k r)
inductive KR (h : Heap) (α : Nat → Addr) (n : Nat) : List (Int × AV) → List (Int × Value) → Prop
  | nil : KR h α n [] []
  | cons {k : Int} {v : AV} {x : Value} {vs xs} : VR h α n v x → KR h α n vs xs → KR h α n ((k, v) :: vs) ((k, x) :: xs)
theorem KR.up {h h' α α' n n'} (u : Up h α n h' α' n') {vs xs} (r : KR h α n vs xs) : KR h' α' n' vs xs := by
  induction r with
  | nil => exact .nil
  | cons a _ ih => exact .cons (a.up u) ih
variable (prog : Program) (w : World)
inductive OR (h : Heap) (α : Nat → Addr) (n : Nat) : AO → Addr → Prop
  | list {vs : List AV} {a : Addr} {items : List Value} {ep : Nat} : h.get? a = some { cls := .type "list", data := .seq items.toArray ep } → VRs h α n vs items → items.length ≤ 1000000 → OR h α n (.list vs) a
  | dict {kvs : List (Int × AV)} {a : Addr} {xs : List (Int × Value)} : h.DictOf (intKind prog w) a xs → KR h α n kvs xs → a ≠ sysModules → xs.length ≤ 1000000 → OR h α n (.dict kvs) a
variable {prog w}
theorem OR.up {h h' α α' n n'} (u : Up h α n h' α' n') {o : AO} {a : Addr} (k : ∀ ob, h.get? a = some ob → h'.get? a = some ob) (r : OR prog w h α n o a) : OR prog w h' α' n' o a := by
  cases r with
  | list e r hl => exact .list (k _ e) (r.up u) hl
  | dict e r ha hl =>
    refine .dict ?_ (r.up u) ha hl
    obtain ⟨ob, es, ep, ho, r⟩ := e
    exact ⟨ob, es, ep, k _ ho, r⟩
theorem fx_seq {ob : Obj} {xs n} (hd : ob.data = .seq xs n) (hc : ob.cls = .type "list") : ¬ Fixed ob ∧ (∀ v, ob.data ≠ .cell v) :=
  ⟨fun f => f.elim (fun ⟨_, e⟩ => by rw [hd] at e; injection e) (fun ⟨e, _⟩ => by rw [hc] at e; injection e with e; exact absurd e (by decide)), fun _ e => by rw [hd] at e; injection e⟩
theorem OR.some {h α n} {o : AO} {a : Addr} (r : OR prog w h α n o a) : ∃ ob, h.get? a = some ob ∧ ¬ Fixed ob ∧ (∀ v, ob.data ≠ .cell v) := by
  cases r with
  | list e r => exact ⟨_, e, fx_seq rfl rfl⟩
  | dict e r =>
    obtain ⟨ob, es, ep, ho, hx, hd, _⟩ := e
    refine ⟨ob, ho, fun f => ?_, fun _ e => by rw [hd] at e; injection e⟩
    rcases f with ⟨_, f⟩ | ⟨_, _, _, f⟩ <;> (rw [hd] at f; injection f)
structure Grow (prog : Program) (w : World) (h : Heap) (α : Nat → Addr) (σ : Store) (h' : Heap) (α' : Nat → Addr) (σ' : Store) : Prop where
  keep : HK h h'
  pre : ∃ τ, σ' = σ ++ τ
  agree : ∀ i, i < σ.length → α' i = α i
  objs : ∀ i o, σ.length ≤ i → σ'[i]? = some o → OR prog w h' α' σ'.length o (α' i)
  fresh : ∀ i, σ.length ≤ i → i < σ'.length → h.get? (α' i) = none
  inj : ∀ i j, σ.length ≤ i → i < σ'.length → σ.length ≤ j → j < σ'.length → α' i = α' j → i = j
theorem Grow.len {h α σ h' α' σ'} (g : Grow prog w h α σ h' α' σ') : σ.length ≤ σ'.length := by
  obtain ⟨τ, rfl⟩ := g.pre; simp
theorem Grow.up {h α σ h' α' σ'} (g : Grow prog w h α σ h' α' σ') : Up h α σ.length h' α' σ'.length := ⟨g.len, g.agree, g.keep.vk⟩
theorem Grow.refl (h : Heap) (α : Nat → Addr) (σ : Store) : Grow prog w h α σ h α σ :=
  ⟨HK.refl _, ⟨[], by simp⟩, fun _ _ => rfl, fun i o hi e => (by rw [List.getElem?_eq_none hi] at e; cases e), fun i hi hj => absurd hi (by exact Nat.not_le_of_lt hj), fun i j hi hj => absurd hi (by exact Nat.not_le_of_lt hj)⟩
theorem Grow.same {h h' : Heap} (k : HK h h') (α : Nat → Addr) (σ : Store) : Grow prog w h α σ h' α σ :=
  ⟨k, ⟨[], by simp⟩, fun _ _ => rfl, fun i o hi e => (by rw [List.getElem?_eq_none hi] at e; cases e), fun i hi hj => absurd hi (by exact Nat.not_le_of_lt hj), fun i j hi hj => absurd hi (by exact Nat.not_le_of_lt hj)⟩
theorem Grow.trans {h α σ h' α' σ' h'' α'' σ''} (x : Grow prog w h α σ h' α' σ') (y : Grow prog w h' α' σ' h'' α'' σ'') : Grow prog w h α σ h'' α'' σ'' := by
  have lx := x.len
  have ly := y.len
  have live : ∀ i, σ.length ≤ i → i < σ'.length → ∃ ob, h'.get? (α' i) = some ob := fun i h1 h2 => by
    obtain ⟨ob, ho, _⟩ := (x.objs i σ'[i] h1 (by simp [h2])).some
    exact ⟨ob, ho⟩
  refine ⟨x.keep.trans y.keep, ?_, fun i hi => (y.agree i (Nat.lt_of_lt_of_le hi lx)).trans (x.agree i hi), fun i o hi e => ?_, fun i hi hj => ?_, fun i j hi hi' hj hj' e => ?_⟩
  · obtain ⟨τ, rfl⟩ := x.pre; obtain ⟨τ', rfl⟩ := y.pre; exact ⟨τ ++ τ', by simp⟩
  · by_cases hlt : i < σ'.length
    · have e' : σ'[i]? = some o := by
        obtain ⟨τ', rfl⟩ := y.pre
        rwa [List.getElem?_append_left hlt] at e
      rw [y.agree i hlt]
      exact (x.objs i o hi e').up y.up (fun ob ho => y.keep _ _ ho)
    · exact y.objs i o (by exact Nat.le_of_not_lt hlt) e
  · by_cases hlt : i < σ'.length
    · rw [y.agree i hlt]; exact x.fresh i hi hlt
    · have := y.fresh i (by exact Nat.le_of_not_lt hlt) hj
      cases q : h.get? (α'' i) with
      | none => rfl
      | some ob => rw [x.keep _ _ q] at this; cases this
  · by_cases h1 : i < σ'.length <;> by_cases h2 : j < σ'.length
    · rw [y.agree i h1, y.agree j h2] at e; exact x.inj i j hi h1 hj h2 e
    · obtain ⟨ob, ho⟩ := live i hi h1
      rw [y.agree i h1] at e
      have := y.fresh j (by exact Nat.le_of_not_lt h2) hj'
      rw [← e, ho] at this; cases this
    · obtain ⟨ob, ho⟩ := live j hj h2
      rw [y.agree j h2] at e
      have := y.fresh i (by exact Nat.le_of_not_lt h1) hi'
      rw [e, ho] at this; cases this
    · exact y.inj i j (by exact Nat.le_of_not_lt h1) hi' (by exact Nat.le_of_not_lt h2) hj' e
theorem Grow.one {h h' : Heap} {α : Nat → Addr} {σ : Store} {o : AO} {a : Addr} (k : HK h h') (hn : h.get? a = none)
    (r : OR prog w h' (fun i => if i = σ.length then a else α i) (σ.length + 1) o a) : Grow prog w h α σ h' (fun i => if i = σ.length then a else α i) (σ ++ [o]) := by
  refine ⟨k, ⟨[o], rfl⟩, fun i hi => by simp [Nat.ne_of_lt hi], fun i o' hi e => ?_, fun i hi hj => ?_, fun i j hi hi' hj hj' e => ?_⟩
  · simp only [List.length_append, List.length_cons, List.length_nil, Nat.zero_add]
    have hlt : i < (σ ++ [o]).length := (List.getElem?_eq_some_iff.mp e).1
    simp at hlt
    have : i = σ.length := by exact Nat.eq_of_le_of_lt_succ hi hlt
    subst this
    simp at e; subst e
    simpa using r
  · simp at hj
    have : i = σ.length := by exact Nat.eq_of_le_of_lt_succ hi hj
    subst this; simpa using hn
  · simp at hi' hj'
    exact ar_3 hi' hj' hi hj
theorem Grow.forget {h α σ h' α' σ'} (x : Grow prog w h α σ h' α' σ') : Grow prog w h α σ h' α σ := Grow.same x.keep α σ
structure Cx where
  A : Around
  env : Env
  h₀ : Heap
  n₀ : Nat
structure R (prog : Program) (w : World) (c : Cx) (α : Nat → Addr) (ρ : AEnv) (σ : Store) (h : Heap) : Prop where
  keep : HK c.h₀ h
  env : ∃ (m cm : Str → Option Value), h.Ns c.env.locals m ∧ (∀ x a, c.env.cells.lookup x = some a → h.IsCell a (cm x)) ∧
    (∀ x v, ρ x = some v → c.env.kindOf x = some .local → ∃ y, m x = some y ∧ VR h α σ.length v y) ∧
    (∀ x v, ρ x = some v → (c.env.kindOf x = some .cell ∨ c.env.kindOf x = some .free) → ∃ y, cm x = some y ∧ VR h α σ.length v y)
  dot : ρ ".0" = none
  objs : ∀ i o, σ[i]? = some o → OR prog w h α σ.length o (α i)
  inj : ∀ i j, i < σ.length → j < σ.length → α i = α j → i = j
  own : ∀ i, c.n₀ ≤ i → i < σ.length → c.h₀.get? (α i) = none
  apart : ∀ i, i < σ.length → α i ≠ c.env.locals
theorem R.live {c α ρ σ h} (r : R prog w c α ρ σ h) (i : Nat) (hi : i < σ.length) : ∃ ob, h.get? (α i) = some ob := by
  obtain ⟨ob, ho, _⟩ := (r.objs i σ[i] (by simp [hi])).some
  exact ⟨ob, ho⟩
theorem R.grow {c α ρ σ h α' σ' h'} (r : R prog w c α ρ σ h) (g : Grow prog w h α σ h' α' σ') : R prog w c α' ρ σ' h' := by
  have hl := g.len
  obtain ⟨m, cm, e1, e2, e3, e4⟩ := r.env
  refine ⟨r.keep.trans g.keep, ⟨m, cm, e1.keeps g.keep, fun x a hx => (e2 x a hx).keeps g.keep, fun x v hx hk => ?_, fun x v hx hk => ?_⟩, r.dot, fun i o e => ?_, fun i j hi hj e => ?_, fun i hi hj => ?_, fun i hi => ?_⟩
  · obtain ⟨y, hy, hv⟩ := e3 x v hx hk; exact ⟨y, hy, hv.up g.up⟩
  · obtain ⟨y, hy, hv⟩ := e4 x v hx hk; exact ⟨y, hy, hv.up g.up⟩
  · by_cases hlt : i < σ.length
    · have e' : σ[i]? = some o := by
        obtain ⟨τ', rfl⟩ := g.pre
        rwa [List.getElem?_append_left hlt] at e
      rw [g.agree i hlt]
      exact (r.objs i o e').up g.up (fun ob ho => g.keep _ _ ho)
    · exact g.objs i o (by exact Nat.le_of_not_lt hlt) e
  · by_cases h1 : i < σ.length <;> by_cases h2 : j < σ.length
    · rw [g.agree i h1, g.agree j h2] at e; exact r.inj i j h1 h2 e
    · obtain ⟨ob, ho⟩ := r.live i h1
      rw [g.agree i h1] at e
      have := g.fresh j (by exact Nat.le_of_not_lt h2) hj
      rw [← e, ho] at this; cases this
    · obtain ⟨ob, ho⟩ := r.live j h2
      rw [g.agree j h2] at e
      have := g.fresh i (by exact Nat.le_of_not_lt h1) hi
      rw [e, ho] at this; cases this
    · exact g.inj i j (by exact Nat.le_of_not_lt h1) hi (by exact Nat.le_of_not_lt h2) hj e
  · by_cases hlt : i < σ.length
    · rw [g.agree i hlt]; exact r.own i hi hlt
    · have := g.fresh i (by exact Nat.le_of_not_lt hlt) hj
      cases q : c.h₀.get? (α' i) with
      | none => rfl
      | some ob => rw [r.keep _ _ q] at this; cases this
  · by_cases hlt : i < σ.length
    · rw [g.agree i hlt]; exact r.apart i hlt
    · intro e
      have := g.fresh i (by exact Nat.le_of_not_lt hlt) hi
      obtain ⟨ob, _, _, ho, _⟩ := e1
      rw [e, ho] at this; cases this
end Inn
end
section
set_option maxRecDepth 10000
set_option linter.unusedVariables false
namespace Inn
open PySem
variable {prog : Program} {w : World}
abbrev AM (β : Type) := AEnv → Store → Option (β × Store)
noncomputable def SimG {β γ : Type} (P : Heap → (Nat → Addr) → Nat → β → γ → Prop) (prog : Program) (w : World) (c : Cx) (t : Sem γ) (m : AM β) : Prop :=
  ∀ (ρ : AEnv) (σ : Store) (v : β) (σ' : Store) (α : Nat → Addr) (s : Shared) (Q : γ → Shared → Prop) (E : Value → Shared → Prop), m ρ σ = some (v, σ') → R prog w c α ρ σ s.heap →
    (∀ x α' h' tk', Grow prog w s.heap α σ h' α' σ' → P h' α' σ'.length v x → Q x { s with heap := h', toks := tk' }) → wpAny (model prog w) c.A t Q E s
abbrev BR (_ : Heap) (_ : Nat → Addr) (_ : Nat) (a b : Bool) : Prop := a = b
abbrev Sim := SimG VR
abbrev SimB := SimG BR
abbrev SimL := SimG VRs
theorem wpAny_gen {M : Model} {A : Around} {β : Type} {m : Sem β} {Q : β → Shared → Prop} {E s} (h : ∀ X : β → Shared → Prop, (∀ a s', Q a s' → X a s') → wpAny M A m X E s) : wpAny M A m Q E s := h Q fun _ _ h => h
abbrev KA {β γ : Type} (P : Heap → (Nat → Addr) → Nat → β → γ → Prop) (prog : Program) (w : World) (s : Shared) (α : Nat → Addr) (σ : Store) (Q : γ → Shared → Prop) (v : β) (σ' : Store) : Prop :=
  ∀ x α' h' tk', Grow prog w s.heap α σ h' α' σ' → P h' α' σ'.length v x → Q x { s with heap := h', toks := tk' }
theorem tr2 {β γ : Type} {P : Heap → (Nat → Addr) → Nat → β → γ → Prop} {s α σ Q} {v v' : β} {σ' σ1 : Store} (h : some (v', σ1) = some (v, σ')) (q : KA P prog w s α σ Q v σ') : KA P prog w s α σ Q v' σ1 := by cases h; exact q
noncomputable def abind {β γ : Type} (m : AM β) (k : β → AM γ) : AM γ := fun ρ σ => (m ρ σ).bind fun p => k p.1 ρ p.2
noncomputable def apure {β : Type} (v : β) : AM β := fun _ σ => some (v, σ)
theorem ite_some {p : Prop} {_ : Decidable p} {β : Type} {o : Option β} {r} (h : (if p then o else none) = some r) : p ∧ o = some r := by
  by_cases hp : p
  · rw [if_pos hp] at h; exact ⟨hp, h⟩
  · rw [if_neg hp] at h; cases h
theorem nos {β : Type _} {r : β} {C : Prop} (h : none = some r) : C := by cases h
theorem abind_some {β γ : Type} {m : AM β} {k : β → AM γ} {ρ σ r} (h : abind m k ρ σ = some r) : ∃ v σ1, m ρ σ = some (v, σ1) ∧ k v ρ σ1 = some r := by
  unfold abind at h
  cases e : m ρ σ with
  | none => rw [e] at h; cases h
  | some p => rw [e] at h; exact ⟨p.1, p.2, rfl, h⟩
section
variable {c : Cx}
noncomputable def aInt (i : Int) : AM AV := apure (.int i)
theorem sim_int {i k pos} : Sim prog w c (eval (.Constant (.int i) k pos) c.env) (aInt i) := by
  intro ρ σ v σ' α s Q E hm r q
  (first | replace q := tr2 hm q | cases hm)
  exact wpAny_Constant_int (q _ α s.heap _ (Grow.refl ..) (.int _ _))
noncomputable def aBool (b : Bool) : AM AV := apure (.bool b)
theorem sim_bool {b k pos} : Sim prog w c (eval (.Constant (.bool b) k pos) c.env) (aBool b) := by
  intro ρ σ v σ' α s Q E hm r q
  (first | replace q := tr2 hm q | cases hm)
  exact wpAny_Constant_bool (q _ α s.heap s.toks (Grow.refl ..) (.bool _))
noncomputable def aNone : AM AV := apure .none
theorem sim_none {k pos} : Sim prog w c (eval (.Constant .none k pos) c.env) aNone := by
  intro ρ σ v σ' α s Q E hm r q
  (first | replace q := tr2 hm q | cases hm)
  exact wpAny_Constant_none (q _ α s.heap s.toks (Grow.refl ..) .none)
noncomputable def aName (x : Str) : AM AV := fun ρ σ => (ρ x).map fun v => (v, σ)
theorem aName_some {x : Str} {ρ σ v σ'} (h : aName x ρ σ = some (v, σ')) : ρ x = some v ∧ σ' = σ := by
  unfold aName at h
  cases e : ρ x with
  | none => rw [e] at h; cases h
  | some p => rw [e] at h; cases h; exact ⟨rfl, rfl⟩
theorem sim_local {x : Str} {pos} (hk : c.env.scope.kind = .function) (hl : c.env.kindOf x = some .local) (hd : (x == ("__debug__" : Str)) = false) :
    Sim prog w c (eval (.Name x pos) c.env) (aName x) := by
  intro ρ σ v σ' α s Q E hm r q
  obtain ⟨hx, rfl⟩ := aName_some hm
  obtain ⟨m, cm, e1, e2, e3, e4⟩ := r.env
  obtain ⟨y, hy, hv⟩ := e3 x v hx hl
  exact wpAny_Name (wpAny_loadName_local hk hl e1 hy (q _ α s.heap s.toks (Grow.refl ..) hv)) hd
theorem sim_cell {x : Str} {pos} (hk : c.env.scope.kind = .function) (hl : c.env.kindOf x = some .cell) (hc : (c.env.cells.lookup x).isSome = true) (hd : (x == ("__debug__" : Str)) = false) :
    Sim prog w c (eval (.Name x pos) c.env) (aName x) := by
  intro ρ σ v σ' α s Q E hm r q
  obtain ⟨hx, rfl⟩ := aName_some hm
  obtain ⟨m, cm, e1, e2, e3, e4⟩ := r.env
  obtain ⟨y, hy, hv⟩ := e4 x v hx (.inl hl)
  obtain ⟨a, ha⟩ := Option.isSome_iff_exists.mp hc
  exact wpAny_Name (wpAny_loadName_cell hk hl ha (hy ▸ e2 x a ha) (q _ α s.heap s.toks (Grow.refl ..) hv)) hd
theorem sim_free {x : Str} {pos} (hk : c.env.scope.kind = .function) (hl : c.env.kindOf x = some .free) (hc : (c.env.cells.lookup x).isSome = true) (hd : (x == ("__debug__" : Str)) = false) (hn : (x == ("__classdict__" : Str)) = false) :
    Sim prog w c (eval (.Name x pos) c.env) (aName x) := by
  intro ρ σ v σ' α s Q E hm r q
  obtain ⟨hx, rfl⟩ := aName_some hm
  obtain ⟨m, cm, e1, e2, e3, e4⟩ := r.env
  obtain ⟨y, hy, hv⟩ := e4 x v hx (.inr hl)
  obtain ⟨a, ha⟩ := Option.isSome_iff_exists.mp hc
  exact wpAny_Name (wpAny_loadName_free hk hl ha (hy ▸ e2 x a ha) (q _ α s.heap s.toks (Grow.refl ..) hv) hn) hd
noncomputable def Op2 (prog : Program) (w : World) (c : Cx) (t : Value → Value → Sem Value) (f : AV → AV → Store → Option (AV × Store)) : Prop :=
  ∀ (a b : AV) (x y : Value) (α : Nat → Addr) (ρ : AEnv) (σ : Store) (v : AV) (σ' : Store) (s : Shared) (Q : Value → Shared → Prop) (E : Value → Shared → Prop), f a b σ = some (v, σ') → R prog w c α ρ σ s.heap →
    VR s.heap α σ.length a x → VR s.heap α σ.length b y →
    (∀ z α' h' tk', Grow prog w s.heap α σ h' α' σ' → VR h' α' σ'.length v z → Q z { s with heap := h', toks := tk' }) → wpAny (model prog w) c.A (t x y) Q E s
noncomputable def aBin (f : AV → AV → Store → Option (AV × Store)) (a b : AM AV) : AM AV := abind a fun x => abind b fun y => fun _ σ => f x y σ
theorem sim_BinOp {l r : Expr} {op : Operator} {pos : Pos} {ml mr : AM AV} {f} (ho : Op2 prog w c (binaryOp op) f) (hl : Sim prog w c (eval l c.env) ml) (hr : Sim prog w c (eval r c.env) mr) :
    Sim prog w c (eval (.BinOp l op r pos) c.env) (aBin f ml mr) := by
  intro ρ σ v σ' α s Q E hm R₀ q
  obtain ⟨a, σ1, h1, hm⟩ := abind_some hm
  obtain ⟨b, σ2, h2, hm⟩ := abind_some hm
  refine wpAny_BinOp (hl _ _ _ _ _ _ _ _ h1 R₀ fun x α1 hh1 tk1 g1 v1 => ?_)
  refine hr _ _ _ _ _ { s with heap := hh1, toks := tk1 } _ _ h2 (R₀.grow g1) fun y α2 hh2 tk2 g2 v2 => ?_
  exact ho _ _ _ _ _ _ _ _ _ { s with heap := hh2, toks := tk2 } _ _ hm ((R₀.grow g1).grow g2) (v1.up g2.up) v2 fun z α3 hh3 tk3 g3 v3 => q z α3 hh3 tk3 ((g1.trans g2).trans g3) v3
noncomputable def ii {β : Type} (f : Int → Int → Option β) : AV → AV → Option β
  | .int a, .int b => f a b
  | _, _ => none
theorem ii_inv {β : Type} {f : Int → Int → Option β} {a b : AV} {r : β} (h : ii f a b = some r) : ∃ i j, a = .int i ∧ b = .int j ∧ f i j = some r := by
  unfold ii at h
  split at h
  · exact ⟨_, _, rfl, rfl, h⟩
  · (first | exact nos h | cases h)
theorem VR.inv_ref {h α n i x} (r : VR h α n (.ref i) x) : i < n ∧ x = .ref (α i) := by cases r with | ref hi => exact ⟨hi, rfl⟩
theorem VR.inv_int {h α n i x} (r : VR h α n (.int i) x) : ∃ t, x = .int i t := by cases r with | int _ t => exact ⟨t, rfl⟩
theorem VR.inv_bool {h α n b x} (r : VR h α n (.bool b) x) : x = .bool b := by cases r; rfl
theorem VR.inv_none {h α n x} (r : VR h α n .none x) : x = .none := by cases r; rfl
theorem VR.inv_tup {h α n vs x} (r : VR h α n (.tup vs) x) : ∃ a items, x = .ref a ∧ h.get? a = some (tupObj items) ∧ VRs h α n vs items := by cases r with | tup e r => exact ⟨_, _, rfl, e, r⟩
noncomputable def opSub (a b : AV) (σ : Store) : Option (AV × Store) := ii (fun a b => some (.int (a - b), σ)) a b
theorem op_sub : Op2 prog w c (binaryOp .Sub) opSub := by
  intro a b x y α ρ σ v σ' s Q E hf r ha hb q
  replace hf := ii_inv hf
  obtain ⟨i, j, rfl, rfl, hf⟩ := hf
  obtain ⟨t, rfl⟩ := ha.inv_int
  obtain ⟨u, rfl⟩ := hb.inv_int
  (first | replace q := tr2 hf q | cases hf)
  exact AutoIntOps.sub_0 (q _ α s.heap _ (Grow.refl ..) (.int _ _))
noncomputable def opMod (a b : AV) (σ : Store) : Option (AV × Store) := ii (fun a b => if b = 0 then none else some (.int (a.fmod b), σ)) a b
theorem op_mod : Op2 prog w c (binaryOp .Mod) opMod := by
  intro a b x y α ρ σ v σ' s Q E hf r ha hb q
  replace hf := ii_inv hf
  obtain ⟨i, j, rfl, rfl, hf⟩ := hf
  obtain ⟨t, rfl⟩ := ha.inv_int
  obtain ⟨u, rfl⟩ := hb.inv_int
  split at hf
  · (first | exact nos hf | cases hf)
  · rename_i hb
    (first | replace q := tr2 hf q | cases hf)
    exact AutoIntOps.mod_1 (by simpa using hb) (q _ α s.heap _ (Grow.refl ..) (.int _ _))
noncomputable def opDiv (a b : AV) (σ : Store) : Option (AV × Store) := ii (fun a b => if 0 < b ∧ b < 1000000000 then some (.int (a.fdiv b), σ) else none) a b
theorem op_div : Op2 prog w c (binaryOp .FloorDiv) opDiv := by
  intro a b x y α ρ σ v σ' s Q E hf r ha hb q
  replace hf := ii_inv hf
  obtain ⟨i, j, rfl, rfl, hf⟩ := hf
  obtain ⟨t, rfl⟩ := ha.inv_int
  obtain ⟨u, rfl⟩ := hb.inv_int
  split at hf
  · rename_i hb
    (first | replace q := tr2 hf q | cases hf)
    exact AutoIntOps.floordiv_1 (by simp; exact ar_4 hb) (by rw [PyProof.noPylong_small (by omega)]; simp) (q _ α s.heap _ (Grow.refl ..) (.int _ _))
  · (first | exact nos hf | cases hf)
noncomputable def opPow (a b : AV) (σ : Store) : Option (AV × Store) := ii (fun a b => if a = 10 ∧ 0 < b ∧ b < 1000 then some (.int (a ^ b.toNat), σ) else none) a b
theorem op_pow : Op2 prog w c (binaryOp .Pow) opPow := by
  intro a b x y α ρ σ v σ' s Q E hf r ha hb q
  replace hf := ii_inv hf
  obtain ⟨i, j, rfl, rfl, hf⟩ := hf
  obtain ⟨t, rfl⟩ := ha.inv_int
  obtain ⟨u, rfl⟩ := hb.inv_int
  split at hf
  · rename_i hb
    (first | replace q := tr2 hf q | cases hf)
    obtain ⟨rfl, h1, h2⟩ := hb
    refine AutoIntOps.pow_4 (by exact Int.le_of_lt h1) (by simp; exact Int.ne_of_gt h1) (by decide) (by decide) ?_ (q _ α s.heap _ (Grow.refl ..) (.int _ _))
    have e : Builtin.Int.intBits 10 = 4 := by decide +kernel
    rw [e]
    unfold Builtin.Int.intTooBig
    simp only [decide_eq_true_eq]
    simp [bitsLine]
    exact ar_8 h2
  · (first | exact nos hf | cases hf)
abbrev smallI (a : Int) : Prop := -(2 ^ 64) < a ∧ a < 2 ^ 64
noncomputable def opMul : AV → AV → Store → Option (AV × Store)
  | .int a, .int b, σ => if smallI a ∨ smallI b then some (.int (a * b), σ) else none
  | .ref i, .int b, σ => match σ[i]? with
    | some (.list vs) => if 0 ≤ b ∧ (vs.length : Int) * b ≤ 1000000 ∧ b < 1000000 then some (.ref σ.length, σ ++ [.list (List.replicate b.toNat vs).flatten]) else none
    | _ => none
  | _, _, _ => none
noncomputable def opAdd : AV → AV → Store → Option (AV × Store)
  | .int a, .int b, σ => some (.int (a + b), σ)
  | .ref i, .ref j, σ => match σ[i]?, σ[j]? with
    | some (.list vs), some (.list ws) => if vs.length + ws.length ≤ 1000000 then some (.ref σ.length, σ ++ [.list (vs ++ ws)]) else none
    | _, _ => none
  | _, _, _ => none
theorem le_sizeLine {n : Nat} (h : n ≤ 1000000) : n ≤ sizeLine := Nat.le_trans h (by decide)
theorem grow_list {ρ : AEnv} {σ : Store} {α : Nat → Addr} {h h' : Heap} {vs : List AV} {items : List Value} {a : Addr} {ep : Nat} (r : R prog w c α ρ σ h) (k : HK h h') (hn : h.get? a = none)
    (ho : h'.get? a = some { cls := .type "list", data := .seq items.toArray ep }) (hv : VRs h α σ.length vs items) (hl : items.length ≤ 1000000) :
    ∃ α', Grow prog w h α σ h' α' (σ ++ [.list vs]) ∧ VR h' α' (σ ++ [AO.list vs]).length (.ref σ.length) (.ref a) := by
  have u : Up h α σ.length h' (fun i => if i = σ.length then a else α i) (σ.length + 1) := ⟨Nat.le_succ _, fun i hi => by simp [Nat.ne_of_lt hi], k.vk⟩
  refine ⟨_, Grow.one k hn (.list ho (hv.up u) hl), ?_⟩
  have := VR.ref (h := h') (α := fun i => if i = σ.length then a else α i) (n := (σ ++ [AO.list vs]).length) (i := σ.length) (by simp)
  simpa using this
theorem get?_size_none (h : Heap) : h.get? h.objs.size = none := by
  cases e : h.get? h.objs.size with
  | none => rfl
  | some o => exact absurd (Heap.lt_size e) (Nat.lt_irrefl _)
theorem R.list {ρ : AEnv} {σ : Store} {α : Nat → Addr} {h : Heap} {i : Nat} {vs : List AV} (r : R prog w c α ρ σ h) (e : σ[i]? = some (.list vs)) :
    ∃ items ep, h.get? (α i) = some { cls := .type "list", data := .seq (items : List Value).toArray ep } ∧ VRs h α σ.length vs items ∧ items.length ≤ 1000000 := by
  cases r.objs i _ e with
  | list a b c => exact ⟨_, _, a, b, c⟩
theorem add_inv {i j : Nat} {σ : Store} {r} (h : opAdd (.ref i) (.ref j) σ = some r) : ∃ vs ws, σ[i]? = some (.list vs) ∧ σ[j]? = some (.list ws) ∧ vs.length + ws.length ≤ 1000000 ∧ some (.ref σ.length, σ ++ [.list (vs ++ ws)]) = some r := by
  replace h : (match σ[i]?, σ[j]? with
    | some (.list vs), some (.list ws) => if vs.length + ws.length ≤ 1000000 then some (.ref σ.length, σ ++ [.list (vs ++ ws)]) else none
    | _, _ => none) = some r := h
  split at h
  · exact ⟨_, _, ‹_›, ‹_›, ite_some h⟩
  · exact nos h
set_option tactic.hygienic true in
theorem op_add : Op2 prog w c (binaryOp .Add) opAdd := by
  intro a b x y α ρ σ v σ' s Q E hf r ha hb q
  cases a with
  | int i =>
    cases b with
    | int j =>
      obtain ⟨t, rfl⟩ := ha.inv_int
      obtain ⟨u, rfl⟩ := hb.inv_int
      exact AutoIntOps.add_0 (tr2 hf q _ α s.heap _ (Grow.refl ..) (.int _ _))
    | _ => exact nos hf
  | ref i =>
    cases b with
    | ref j =>
      obtain ⟨vs, ws, e1, e2, hlen, hf⟩ := add_inv hf
      obtain ⟨_, rfl⟩ := ha.inv_ref
      obtain ⟨_, rfl⟩ := hb.inv_ref
      obtain ⟨is, n1, g1, v1, l1⟩ := r.list e1
      obtain ⟨js, n2, g2, v2, l2⟩ := r.list e2
      have hl : (is ++ js).length ≤ 1000000 := by rw [List.length_append, ← v1.length, ← v2.length]; exact hlen
      refine P.add_list g1 g2 ?_ (by simp only [List.size_toArray]; rw [List.length_append] at hl; exact le_sizeLine hl)
      obtain ⟨α', g, v⟩ := grow_list (a := s.heap.objs.size) (ep := 0) (items := is ++ js) r (HK.push s.heap { cls := .type "list", data := .seq (is.toArray ++ js.toArray) }) (get?_size_none _) (by rw [Heap.get?_push_size _ rfl]; simp) (v1.append v2) hl
      exact tr2 hf q _ α' _ s.toks g v
    | _ => exact nos hf
  | _ => exact nos hf
end
end Inn
end
section
set_option maxRecDepth 10000
set_option linter.unusedVariables false
namespace Inn
open PySem
variable {prog : Program} {w : World}
section
variable {c : Cx}
theorem foldl_app (items : List Value) : ∀ (k : Nat) (acc : Array Value), List.foldl (fun x1 x2 => x1 ++ x2) acc (List.replicate k items.toArray) = (acc.toList ++ (List.replicate k items).flatten).toArray
  | 0, acc => by simp
  | k + 1, acc => by
    rw [List.replicate_succ, List.foldl_cons, foldl_app items k]
    simp [List.replicate_succ]
theorem VRs.rep {h α n} {vs : List AV} {xs : List Value} (r : VRs h α n vs xs) : ∀ k : Nat, VRs h α n (List.replicate k vs).flatten (List.replicate k xs).flatten
  | 0 => by simpa using VRs.nil
  | k + 1 => by simpa [List.replicate_succ] using r.append (r.rep k)
theorem length_rep {β : Type} (vs : List β) (k : Nat) : (List.replicate k vs).flatten.length = k * vs.length := by
  induction k with
  | zero => simp
  | succ k ih => simp [List.replicate_succ, ih, Nat.succ_mul]; exact ar_9
theorem mul_fitsI {a b : Int} (h : smallI a ∨ smallI b) : IntMulOk a b :=
  h.elim (fun h => IntMulOk.of_left (intBits_le_64 h.1 h.2)) (fun h => IntMulOk.of_right (intBits_le_64 h.1 h.2))
theorem list_mul {A : Around} {E : Value → Shared → Prop} {s : Shared} {l : Addr} {items : Array Value} {k : Nat} {x : Int} {u : Tok} {Q : Value → Shared → Prop}
    (hl : s.heap.get? l = some { cls := .type "list", dict := none, data := .seq items k, slots := #[] })
    (hlo : -(2 ^ 63 : Int) ≤ x) (hhi : x < 2 ^ 63) (hsz : items.size * x.toNat ≤ 2 ^ 24)
    (h : Q (.ref s.heap.objs.size) { s with heap := s.heap.push { cls := .type "list", data := .seq (List.foldl (fun x1 x2 => x1 ++ x2) #[] (List.replicate (if items.isEmpty = true then 0 else x.toNat) items)) } }) :
    wpAny (model prog w) A (binaryOp .Mult (.ref l) (.int x u)) Q E s :=
  wpAny_binaryOp_repeat_ref (T := "list") (U := "int") (by decide) ⟨_, hl, rfl⟩ (fun s' => typeIs_int s' x u) noFill_list_mul F.fills_int_mul F.slot_int_rmul repeat_list F.slot_int_index.lookup
    (call_meets F.slot_int_rmul (typeIs_int s x u) F.entry_int_rmul (F.args_int_rmul_2 _ _) (int___rmul___int_list x u l items k)
      ⟨hl, rfl, ⟨_, hl, rfl⟩, call_meets F.slot_list_mul ⟨_, hl, rfl⟩ F.entry_list_mul (F.args_list_mul_2 _ _)
        (AutoListH.list___mul___list_int_3 l items k x u (by simp [Builtin.List.listFitsIndex]; omega) (by omega) (by simp [Builtin.List.listTooLong, sizeLine]; omega))
        ⟨hl, h⟩⟩)
theorem mul_inv {i : Nat} {b : Int} {σ : Store} {r} (h : opMul (.ref i) (.int b) σ = some r) : ∃ vs, σ[i]? = some (.list vs) ∧ (0 ≤ b ∧ (vs.length : Int) * b ≤ 1000000 ∧ b < 1000000) ∧ some (.ref σ.length, σ ++ [.list (List.replicate b.toNat vs).flatten]) = some r := by
  unfold opMul at h
  dsimp only at h
  cases e : σ[i]? with
  | none => rw [e] at h; exact nos h
  | some o =>
    rw [e] at h
    cases o with
    | list vs => exact ⟨vs, rfl, ite_some h⟩
    | dict _ => exact nos h
set_option tactic.hygienic true in
theorem op_mul : Op2 prog w c (binaryOp .Mult) opMul := by
  intro a b x y α ρ σ v σ' s Q E hf r ha hb q
  cases b with
  | int b =>
    cases a with
    | int a =>
      obtain ⟨t, rfl⟩ := ha.inv_int
      obtain ⟨u, rfl⟩ := hb.inv_int
      obtain ⟨hs, hf⟩ := ite_some hf
      exact AutoIntOps.mul_0 (tr2 hf q _ α s.heap _ (Grow.refl ..) (.int _ _)) (mul_fitsI hs)
    | ref i =>
      obtain ⟨vs, e1, hlen, hf⟩ := mul_inv hf
      obtain ⟨hi, rfl⟩ := ha.inv_ref
      obtain ⟨t, rfl⟩ := hb.inv_int
      obtain ⟨is, n1, g1, v1, l1⟩ := r.list e1
      have hle : is.length * b.toNat ≤ 1000000 := by
        rw [v1.length] at hlen
        have h1 := hlen.2.1
        have e : ((is.length * b.toNat : Nat) : Int) = (is.length : Int) * b := by rw [Int.natCast_mul, Int.toNat_of_nonneg hlen.1]
        exact ar_13 hlen e
      refine list_mul g1 (by omega) (by omega) (by simp; exact ar_16 hle) ?_
      have e2 : List.foldl (fun x1 x2 => x1 ++ x2) #[] (List.replicate (if is.toArray.isEmpty = true then 0 else b.toNat) is.toArray) = (List.replicate b.toNat is).flatten.toArray := by
        rw [foldl_app]
        cases is with
        | nil => simp
        | cons x xs => simp
      obtain ⟨α', g, v⟩ := grow_list (a := s.heap.objs.size) (ep := 0) (vs := (List.replicate b.toNat vs).flatten) (items := (List.replicate b.toNat is).flatten) r (HK.push s.heap { cls := .type "list", data := .seq (List.replicate b.toNat is).flatten.toArray }) (get?_size_none _) (by rw [Heap.get?_push_size _ rfl]) (v1.rep b.toNat) (by rw [length_rep, Nat.mul_comm]; exact hle)
      rw [e2]
      exact tr2 hf q _ α' _ s.toks g v
    | _ => exact nos hf
  | _ => cases a <;> exact nos hf
noncomputable def Cmp2 (prog : Program) (w : World) (c : Cx) (t : Value → Value → Sem Value) (f : AV → AV → Store → Option Bool) : Prop :=
  ∀ (a b : AV) (x y : Value) (α : Nat → Addr) (ρ : AEnv) (σ : Store) (v : Bool) (s : Shared) (Q : Value → Shared → Prop) (E : Value → Shared → Prop), f a b σ = some v → R prog w c α ρ σ s.heap →
    VR s.heap α σ.length a x → VR s.heap α σ.length b y →
    (∀ tk', Q (.bool v) { s with toks := tk' }) → wpAny (model prog w) c.A (t x y) Q E s
noncomputable def aCmp (f : AV → AV → Store → Option Bool) (a b : AM AV) : AM AV := abind a fun x => abind b fun y => fun _ σ => (f x y σ).map fun r => (.bool r, σ)
noncomputable def bCmp (f : AV → AV → Store → Option Bool) (a b : AM AV) : AM Bool := abind a fun x => abind b fun y => fun _ σ => (f x y σ).map fun r => (r, σ)
theorem map_some' {β γ : Type} {o : Option β} {f : β → γ} {r : γ} (h : o.map f = some r) : ∃ v, o = some v ∧ f v = r := by
  cases o with
  | none => (first | exact nos h | cases h)
  | some v => exact ⟨v, rfl, by simpa using h⟩
theorem sim_Cmp1 {l r : Expr} {op : CmpOp} {pos : Pos} {ml mr : AM AV} {f} (ho : Cmp2 prog w c (compareOp op) f) (hm' : behindInMarks op r = false) (hl : Sim prog w c (eval l c.env) ml) (hr : Sim prog w c (eval r c.env) mr) :
    Sim prog w c (eval (.Compare l [op] [r] pos) c.env) (aCmp f ml mr) := by
  intro ρ σ v σ' α s Q E hm R₀ q
  obtain ⟨a, σ1, h1, hm⟩ := abind_some hm
  obtain ⟨b, σ2, h2, hm⟩ := abind_some hm
  obtain ⟨o, h3, hm⟩ := map_some' hm
  (first | replace q := tr2 hm q | cases hm)
  refine wpAny_Compare1 (hl _ _ _ _ _ _ _ _ h1 R₀ fun x α1 hh1 tk1 g1 v1 => ?_) hm'
  refine hr _ _ _ _ _ { s with heap := hh1, toks := tk1 } _ _ h2 (R₀.grow g1) fun y α2 hh2 tk2 g2 v2 => ?_
  exact ho _ _ _ _ _ _ _ _ { s with heap := hh2, toks := tk2 } _ _ h3 ((R₀.grow g1).grow g2) (v1.up g2.up) v2 fun tk3 => q _ α2 hh2 tk3 (g1.trans g2) (.bool _)
theorem simB_Cmp1 {l r : Expr} {op : CmpOp} {pos : Pos} {ml mr : AM AV} {f} {whole} (ho : Cmp2 prog w c (compareOp op) f) (hm' : behindInMarks op r = false) (hl : Sim prog w c (eval l c.env) ml) (hr : Sim prog w c (eval r c.env) mr) :
    SimB prog w c (isTrue (.Compare l [op] [r] pos) c.env whole) (bCmp f ml mr) := by
  intro ρ σ v σ' α s Q E hm R₀ q
  obtain ⟨a, σ1, h1, hm⟩ := abind_some hm
  obtain ⟨b, σ2, h2, hm⟩ := abind_some hm
  obtain ⟨o, h3, hm⟩ := map_some' hm
  (first | replace q := tr2 hm q | cases hm)
  refine wpAny_isTrue_Compare1 (hl _ _ _ _ _ _ _ _ h1 R₀ fun x α1 hh1 tk1 g1 v1 => ?_) hm'
  refine hr _ _ _ _ _ { s with heap := hh1, toks := tk1 } _ _ h2 (R₀.grow g1) fun y α2 hh2 tk2 g2 v2 => ?_
  exact ho _ _ _ _ _ _ _ _ { s with heap := hh2, toks := tk2 } _ _ h3 ((R₀.grow g1).grow g2) (v1.up g2.up) v2 fun tk3 => wpAny_truthy_bool (q _ α2 hh2 tk3 (g1.trans g2) rfl)
theorem bind_some' {β γ : Type} {o : Option β} {f : β → Option γ} {r : γ} (h : o.bind f = some r) : ∃ v, o = some v ∧ f v = some r := by
  cases o with
  | none => (first | exact nos h | cases h)
  | some v => exact ⟨v, rfl, by simpa using h⟩
noncomputable def cLt (a b : AV) (_ : Store) : Option Bool := ii (fun a b => some (decide (a < b))) a b
noncomputable def cGt (a b : AV) (_ : Store) : Option Bool := ii (fun a b => some (decide (b < a))) a b
noncomputable def cGe (a b : AV) (_ : Store) : Option Bool := ii (fun a b => some (decide (b ≤ a))) a b
theorem cmp_lt : Cmp2 prog w c (compareOp .Lt) cLt := by
  intro a b x y α ρ σ v s Q E hf r ha hb q
  replace hf := ii_inv hf
  obtain ⟨i, j, rfl, rfl, hf⟩ := hf
  obtain ⟨t, rfl⟩ := ha.inv_int
  obtain ⟨u, rfl⟩ := hb.inv_int
  (first | replace q := tr2 hf q | cases hf)
  exact P.lt_int (q s.toks)
theorem cmp_gt : Cmp2 prog w c (compareOp .Gt) cGt := by
  intro a b x y α ρ σ v s Q E hf r ha hb q
  replace hf := ii_inv hf
  obtain ⟨i, j, rfl, rfl, hf⟩ := hf
  obtain ⟨t, rfl⟩ := ha.inv_int
  obtain ⟨u, rfl⟩ := hb.inv_int
  (first | replace q := tr2 hf q | cases hf)
  exact P.gt_int (q s.toks)
theorem cmp_ge : Cmp2 prog w c (compareOp .GtE) cGe := by
  intro a b x y α ρ σ v s Q E hf r ha hb q
  replace hf := ii_inv hf
  obtain ⟨i, j, rfl, rfl, hf⟩ := hf
  obtain ⟨t, rfl⟩ := ha.inv_int
  obtain ⟨u, rfl⟩ := hb.inv_int
  (first | replace q := tr2 hf q | cases hf)
  exact P.ge_int (q s.toks)
noncomputable def isN : AV → Option Bool
  | .none => some true
  | .int _ => some false
  | .tup _ => some false
  | _ => none
noncomputable def cIs (a b : AV) (_ : Store) : Option Bool := match b with
  | .none => isN a
  | _ => none
noncomputable def cIsNot (a b : AV) (_ : Store) : Option Bool := match b with
  | .none => (isN a).map (!·)
  | _ => none
theorem isN_some {h α n a x v} (e : isN a = some v) (r : VR h α n a x) : (x == Value.none) = v := by
  unfold isN at e
  split at e
  · cases e; rw [r.inv_none]; rfl
  · cases e; obtain ⟨t, rfl⟩ := r.inv_int; exact beq_eq_false_iff_ne.mpr (by simp)
  · cases e; obtain ⟨a, is, rfl, _⟩ := r.inv_tup; exact beq_eq_false_iff_ne.mpr (by simp)
  · (first | exact nos e | cases e)
theorem cmp_is : Cmp2 prog w c (compareOp .Is) cIs := by
  intro a b x y α ρ σ v s Q E hf r ha hb q
  unfold cIs at hf
  split at hf
  · rw [hb.inv_none]
    exact is_none (by rw [isN_some hf ha]; exact q s.toks)
  · (first | exact nos hf | cases hf)
theorem cmp_isNot : Cmp2 prog w c (compareOp .IsNot) cIsNot := by
  intro a b x y α ρ σ v s Q E hf r ha hb q
  unfold cIsNot at hf
  split at hf
  · rw [hb.inv_none]
    obtain ⟨v', e, rfl⟩ := map_some' hf
    exact isNot_none (by rw [isN_some e ha]; exact q s.toks)
  · (first | exact nos hf | cases hf)
noncomputable def aTruth : AV → Option Bool
  | .bool b => some b
  | _ => none
noncomputable def bVal (m : AM AV) : AM Bool := abind m fun v => fun _ σ => (aTruth v).map fun b => (b, σ)
theorem truth_any {M : Model} {A : Around} {E : Value → Shared → Prop} {s : Shared} {h α n v x b} {Q : Bool → Shared → Prop} (r : VR h α n v x) (e : aTruth v = some b) (q : Q b s) : wpAny M A (truthy x) Q E s := by
  cases v with
  | bool b' => cases e; cases r.inv_bool; exact wpAny_truthy_bool q
  | _ => exact nos e
theorem simB_val {e : Expr} {m : AM AV} (he : ∀ whole, isTrue e c.env whole = (do let v ← whole; standAt e.pos; holding [v] (truthy v))) (h : Sim prog w c (eval e c.env) m) : SimB prog w c (isTrue e c.env (eval e c.env)) (bVal m) := by
  intro ρ σ v σ' α s Q E hm R₀ q
  obtain ⟨a, σ1, h1, hm⟩ := abind_some hm
  obtain ⟨o, h3, hm⟩ := map_some' hm
  (first | replace q := tr2 hm q | cases hm)
  exact wpAny_isTrue_value (h _ _ _ _ _ _ _ _ h1 R₀ fun x α1 hh1 tk1 g1 v1 => truth_any v1 h3 (q _ α1 hh1 tk1 g1 rfl)) (he _)
noncomputable def bNot (m : AM Bool) : AM Bool := abind m fun b => fun _ σ => some (!b, σ)
theorem simB_not {x : Expr} {pos : Pos} {whole} {m : AM Bool} (h : SimB prog w c (isTrue x c.env (eval x c.env)) m) : SimB prog w c (isTrue (.UnaryOp .Not x pos) c.env whole) (bNot m) := by
  intro ρ σ v σ' α s Q E hm R₀ q
  obtain ⟨a, σ1, h1, hm⟩ := abind_some hm
  (first | replace q := tr2 hm q | cases hm)
  exact wpAny_isTrue_Not (h _ _ _ _ _ _ _ _ h1 R₀ fun x α1 hh1 tk1 g1 v1 => by subst v1; exact q _ α1 hh1 tk1 g1 rfl)
noncomputable def bAnd : List (AM Bool) → AM Bool
  | [] => apure true
  | m :: r => abind m fun b => if b then bAnd r else apure false
noncomputable def bOr : List (AM Bool) → AM Bool
  | [] => apure false
  | m :: r => abind m fun b => if b then apure true else bOr r
noncomputable def SimAnd (prog : Program) (w : World) (c : Cx) (es : List Expr) (ms : List (AM Bool)) : Prop := SimB prog w c (allTrue .And es c.env) (bAnd ms)
noncomputable def SimOr (prog : Program) (w : World) (c : Cx) (es : List Expr) (ms : List (AM Bool)) : Prop := SimB prog w c (allTrue .Or es c.env) (bOr ms)
theorem simAnd_nil : SimAnd prog w c [] [] := by
  intro ρ σ v σ' α s Q E hm R₀ q
  (first | replace q := tr2 hm q | cases hm)
  exact wpAny_allTrue_And_nil (q _ α s.heap s.toks (Grow.refl ..) rfl)
theorem simOr_nil : SimOr prog w c [] [] := by
  intro ρ σ v σ' α s Q E hm R₀ q
  (first | replace q := tr2 hm q | cases hm)
  exact wpAny_allTrue_Or_nil (q _ α s.heap s.toks (Grow.refl ..) rfl)
theorem simAnd_cons {x : Expr} {rest m ms} (h : SimB prog w c (isTrue x c.env (eval x c.env)) m) (hr : SimAnd prog w c rest ms) : SimAnd prog w c (x :: rest) (m :: ms) := by
  intro ρ σ v σ' α s Q E hm R₀ q
  obtain ⟨a, σ1, h1, hm⟩ := abind_some hm
  refine wpAny_allTrue_And_cons (h _ _ _ _ _ _ _ _ h1 R₀ fun x α1 hh1 tk1 g1 v1 => ?_)
  subst v1
  cases a with
  | false => (first | replace q := tr2 hm q | cases hm); exact q _ α1 hh1 tk1 g1 rfl
  | true => exact hr _ _ _ _ _ { s with heap := hh1, toks := tk1 } _ _ hm (R₀.grow g1) fun x α2 hh2 tk2 g2 v2 => q _ α2 hh2 tk2 (g1.trans g2) v2
theorem simOr_cons {x : Expr} {rest m ms} (h : SimB prog w c (isTrue x c.env (eval x c.env)) m) (hr : SimOr prog w c rest ms) : SimOr prog w c (x :: rest) (m :: ms) := by
  intro ρ σ v σ' α s Q E hm R₀ q
  obtain ⟨a, σ1, h1, hm⟩ := abind_some hm
  refine wpAny_allTrue_Or_cons (h _ _ _ _ _ _ _ _ h1 R₀ fun x α1 hh1 tk1 g1 v1 => ?_)
  subst v1
  cases a with
  | true => (first | replace q := tr2 hm q | cases hm); exact q _ α1 hh1 tk1 g1 rfl
  | false => exact hr _ _ _ _ _ { s with heap := hh1, toks := tk1 } _ _ hm (R₀.grow g1) fun x α2 hh2 tk2 g2 v2 => q _ α2 hh2 tk2 (g1.trans g2) v2
theorem simB_and {es ms pos whole} (h : SimAnd prog w c es ms) : SimB prog w c (isTrue (.BoolOp .And es pos) c.env whole) (bAnd ms) := by
  intro ρ σ v σ' α s Q E hm R₀ q
  exact wpAny_isTrue_BoolOp (h _ _ _ _ _ _ _ _ hm R₀ q)
theorem simB_or {es ms pos whole} (h : SimOr prog w c es ms) : SimB prog w c (isTrue (.BoolOp .Or es pos) c.env whole) (bOr ms) := by
  intro ρ σ v σ' α s Q E hm R₀ q
  exact wpAny_isTrue_BoolOp (h _ _ _ _ _ _ _ _ hm R₀ q)
noncomputable def vAnd : List (AM AV) → AM AV
  | [] => fun _ _ => none
  | [m] => m
  | m :: r => abind m fun v => fun ρ σ => (aTruth v).bind fun b => if b then vAnd r ρ σ else some (v, σ)
noncomputable def SimVAnd (prog : Program) (w : World) (c : Cx) (es : List Expr) (ms : List (AM AV)) : Prop := ∀ pos, Sim prog w c (boolOp pos .And (evalEach es c.env)) (vAnd ms)
theorem simVAnd_one {e m} (h : Sim prog w c (eval e c.env) m) : SimVAnd prog w c [e] [m] := fun _ => h
theorem simVAnd_cons {e e' es m m' ms} (h : Sim prog w c (eval e c.env) m) (hr : SimVAnd prog w c (e' :: es) (m' :: ms)) : SimVAnd prog w c (e :: e' :: es) (m :: m' :: ms) := by
  intro pos ρ σ v σ' α s Q E hm R₀ q
  obtain ⟨a, σ1, h1, hm⟩ := abind_some hm
  obtain ⟨b, h2, hm⟩ := bind_some' hm
  show wpAny _ _ (boolOp pos .And (eval e c.env :: eval e' c.env :: evalEach es c.env)) _ _ _
  refine wpAny_bind (h _ _ _ _ _ _ _ _ h1 R₀ fun x α1 hh1 tk1 g1 v1 => wpAny_bind (wpAny_standAt (wpAny_bind (wpAny_holding (truth_any v1 h2 ?_)))))
  cases b with
  | false => (first | replace q := tr2 hm q | cases hm); exact wpAny_pure (q _ α1 hh1 tk1 g1 v1)
  | true => exact hr pos _ _ _ _ _ { s with heap := hh1, toks := tk1 } _ _ hm (R₀.grow g1) fun x α2 hh2 tk2 g2 v2 => q _ α2 hh2 tk2 (g1.trans g2) v2
theorem sim_and {es ms pos} (h : SimVAnd prog w c es ms) : Sim prog w c (eval (.BoolOp .And es pos) c.env) (vAnd ms) := h pos
noncomputable def aNot (m : AM AV) : AM AV := abind m fun v => fun _ σ => (aTruth v).map fun b => (.bool (!b), σ)
theorem sim_not {x : Expr} {pos : Pos} {m : AM AV} (h : Sim prog w c (eval x c.env) m) : Sim prog w c (eval (.UnaryOp .Not x pos) c.env) (aNot m) := by
  intro ρ σ v σ' α s Q E hm R₀ q
  obtain ⟨a, σ1, h1, hm⟩ := abind_some hm
  obtain ⟨o, h3, hm⟩ := map_some' hm
  (first | replace q := tr2 hm q | cases hm)
  exact wpAny_UnaryOp (h _ _ _ _ _ _ _ _ h1 R₀ fun x α1 hh1 tk1 g1 v1 => not_value (truth_any v1 h3 (q _ α1 hh1 tk1 g1 (.bool _))))
end
end Inn
end
section
set_option maxRecDepth 10000
set_option linter.unusedVariables false
namespace Inn
open PySem
variable {prog : Program} {w : World}
section
variable {c : Cx}
noncomputable def aNeg (m : AM AV) : AM AV := abind m fun v => fun _ σ => match v with
  | .int i => some (.int (-i), σ)
  | _ => none
theorem sim_neg {x : Expr} {pos : Pos} {m : AM AV} (h : Sim prog w c (eval x c.env) m) : Sim prog w c (eval (.UnaryOp .USub x pos) c.env) (aNeg m) := by
  intro ρ σ v σ' α s Q E hm R₀ q
  obtain ⟨a, σ1, h1, hm⟩ := abind_some hm
  refine wpAny_UnaryOp (h _ _ _ _ _ _ _ _ h1 R₀ fun x α1 hh1 tk1 g1 v1 => ?_)
  cases a with
  | int i =>
    obtain ⟨t, rfl⟩ := v1.inv_int
    exact P.neg_int (tr2 hm q _ α1 hh1 _ g1 (.int _ _))
  | _ => exact nos hm
noncomputable def aArgs : List (AM AV) → AM (List AV)
  | [] => apure []
  | m :: r => abind m fun v => abind (aArgs r) fun vs => apure (v :: vs)
noncomputable def SimA (prog : Program) (w : World) (c : Cx) (es : List Expr) (ms : List (AM AV)) : Prop := ∀ pos, SimL prog w c (spliced (backTo pos (starEach es c.env))) (aArgs ms)
theorem simA_nil : SimA prog w c [] [] := by
  intro pos ρ σ v σ' α s Q E hm R₀ q
  (first | replace q := tr2 hm q | cases hm)
  exact wpAny_items_nil (q _ α s.heap s.toks (Grow.refl ..) .nil)
theorem simA_cons {e es m ms} (h : Sim prog w c (eval e c.env) m) (hr : SimA prog w c es ms) (he : starEach (e :: es) c.env = (false, eval e c.env) :: starEach es c.env := by rfl) : SimA prog w c (e :: es) (m :: ms) := by
  intro pos ρ σ v σ' α s Q E hm R₀ q
  obtain ⟨a, σ1, h1, hm⟩ := abind_some hm
  obtain ⟨b, σ2, h2, hm⟩ := abind_some hm
  (first | replace q := tr2 hm q | cases hm)
  refine wpAny_items_cons (h _ _ _ _ _ _ _ _ h1 R₀ fun x α1 hh1 tk1 g1 v1 => ?_) he
  exact hr pos _ _ _ _ _ { s with heap := hh1, toks := tk1 } _ _ h2 (R₀.grow g1) fun y α2 hh2 tk2 g2 v2 => q _ α2 hh2 tk2 (g1.trans g2) (.cons (v1.up g2.up) v2)
noncomputable def aList (ms : List (AM AV)) : AM AV := abind (aArgs ms) fun vs => fun _ σ => if vs.length ≤ 1000000 then some (.ref σ.length, σ ++ [.list vs]) else none
theorem sim_List {es pos ms} (h : SimA prog w c es ms) : Sim prog w c (eval (.List es pos) c.env) (aList ms) := by
  intro ρ σ v σ' α s Q E hm R₀ q
  obtain ⟨a, σ1, h1, hm⟩ := abind_some hm
  obtain ⟨hl, hm⟩ := ite_some hm
  replace q := tr2 hm q
  refine wpAny_List (h pos _ _ _ _ _ _ _ _ h1 R₀ fun xs α1 hh1 tk1 g1 v1 => ?_)
  have hl' : xs.length ≤ 1000000 := v1.length ▸ hl
  obtain ⟨α', g, v⟩ := grow_list (a := hh1.objs.size) (ep := 0) (R₀.grow g1) (HK.push hh1 { cls := .type "list", data := .seq xs.toArray }) (get?_size_none _) (by rw [Heap.get?_push_size _ rfl]) v1 hl'
  exact ⟨le_sizeLine hl', q _ α' _ tk1 (g1.trans g) v⟩
noncomputable def aTup (ms : List (AM AV)) : AM AV := abind (aArgs ms) fun vs => fun _ σ => if vs.length ≤ 1000000 then some (.tup vs, σ) else none
theorem sim_Tuple {es k pos ms} (h : SimA prog w c es ms) : Sim prog w c (eval (.Tuple es k pos) c.env) (aTup ms) := by
  intro ρ σ v σ' α s Q E hm R₀ q
  obtain ⟨a, σ1, h1, hm⟩ := abind_some hm
  obtain ⟨hl, hm⟩ := ite_some hm
  replace q := tr2 hm q
  refine wpAny_Tuple (h pos _ _ _ _ _ _ _ _ h1 R₀ fun xs α1 hh1 tk1 g1 v1 => ?_)
  have k : HK hh1 (hh1.push (tupObj xs)) := HK.push hh1 _
  exact ⟨le_sizeLine (v1.length ▸ hl), q _ α1 _ tk1 (g1.trans (Grow.same k α1 _)) (.tup (Heap.get?_push_size _ rfl) (v1.up ⟨Nat.le_refl _, fun _ _ => rfl, k.vk⟩))⟩
theorem wpAny_Subscript_any {A : Around} {E : Value → Shared → Prop} {s : Shared} {env : Env} {value slice : Expr} {pos : Pos} {Q : Value → Shared → Prop}
    (hs : ∀ o i, subscripted slice false o i = operate [o, i] (getItem o i))
    (h : wpAny (model prog w) A (eval value env) (fun o s₁ => wpAny (model prog w) A (eval slice env) (fun i s₂ => SubscriptOn (model prog w) A o i Q E s₂) E s₁) E s) :
    wpAny (model prog w) A (eval (.Subscript value slice pos) env) Q E s := by
  rw [eval_Subscript]
  refine wpAny_bind (wpAny_mono h (fun o s₁ h₁ => wpAny_bind (wpAny_holding (wpAny_mono h₁ (fun i s₂ h₂ => wpAny_bind (wpAny_standAt ?_)) fun _ _ x => x)))
    fun _ _ x => x)
  obtain ⟨T, id, hl, hT, hg⟩ := h₂
  refine wpAny_bind ?_
  rw [getitemInPython_of_ne hT.not_modules]
  refine wpAny_bind (wpAny_specialOf hT hl ?_)
  refine wpAny_pure ?_
  show wpAny _ _ (subscripted slice false o i >>= _) _ _ _
  rw [hs]
  exact wpAny_bind (wpAny_operating (wpAny_mono hg (fun r s₃ h₃ => wpAny_bind (wpAny_letTemporaryGo (wpAny_pure h₃))) fun _ _ x => x))
noncomputable def look (kvs : List (Int × AV)) (k : Int) : Option AV := (kvs.find? fun kv => decide (kv.1 = k)).map (·.2)
noncomputable def getI : AV → AV → Store → Option (AV × Store)
  | .ref i, .int k, σ => match σ[i]? with
    | some (.list vs) => if 0 ≤ k then (vs[k.toNat]?).map fun v => (v, σ) else none
    | some (.dict kvs) => (look kvs k).map fun v => (v, σ)
    | none => none
  | .tup vs, .int k, σ => if 0 ≤ k ∧ k < 1000000 then (vs[k.toNat]?).map fun v => (v, σ) else none
  | _, _, _ => none
theorem KR.look {h α n vs xs} (r : KR h α n vs xs) {k : Int} {v : AV} (e : look vs k = some v) : ∃ x, valueAt xs k = some x ∧ VR h α n v x := by
  induction r with
  | nil => exact nos e
  | @cons k' v' x' vs' xs' a r ih =>
    unfold Inn.look at e
    unfold valueAt at ih ⊢
    by_cases hk : k' = k
    · rw [List.find?_cons_of_pos (by exact decide_eq_true hk)] at e ⊢
      exact ⟨x', rfl, Option.some.inj e ▸ a⟩
    · rw [List.find?_cons_of_neg (by simpa using hk)] at e ⊢
      exact ih e
theorem R.dict {ρ : AEnv} {σ : Store} {α : Nat → Addr} {h : Heap} {i : Nat} {kvs : List (Int × AV)} (r : R prog w c α ρ σ h) (e : σ[i]? = some (.dict kvs)) :
    ∃ xs, h.DictOf (intKind prog w) (α i) xs ∧ KR h α σ.length kvs xs ∧ α i ≠ sysModules ∧ xs.length ≤ 1000000 := by
  cases r.objs i _ e with
  | dict a b c d => exact ⟨_, a, b, c, d⟩
theorem KR.length {h α n vs xs} (r : KR h α n vs xs) : vs.length = xs.length := by
  induction r with
  | nil => rfl
  | cons _ _ ih => exact congrArg Nat.succ ih
theorem mapOf_of_dictOf {h : Heap} {a : Addr} {kvs : List (Int × Value)} (d : h.DictOf (intKind prog w) a kvs) : h.MapOf (intKind prog w) a (valueAt kvs) := by
  obtain ⟨o, es, ep, ho, hx, hd, hk, hp, hn⟩ := d
  refine ⟨o, es, ep, ho, hx, hd, hk, fun k => ?_⟩
  rw [← hp.find k]
  cases es
  simp [findBy]
theorem get_lt {β : Type} {xs : List β} {k : Int} {v : β} (h0 : 0 ≤ k) (e : xs[k.toNat]? = some v) : k < xs.length := by
  have := (List.getElem?_eq_some_iff.mp e).1
  exact Int.lt_of_toNat_lt this
theorem getI_inv {a b : AV} {σ : Store} {r} {C : Prop} (h : getI a b σ = some r) (k1 : ∀ i k vs v, a = .ref i → b = .int k → σ[i]? = some (.list vs) → 0 ≤ k → vs[k.toNat]? = some v → (v, σ) = r → C)
    (k2 : ∀ i k kvs v, a = .ref i → b = .int k → σ[i]? = some (.dict kvs) → look kvs k = some v → (v, σ) = r → C) (k3 : ∀ vs k v, a = .tup vs → b = .int k → (0 ≤ k ∧ k < 1000000) → vs[k.toNat]? = some v → (v, σ) = r → C) : C := by
  cases a with
  | ref i =>
    replace k1 := k1 i
    replace k2 := k2 i
    clear k3
    cases b with
    | int k =>
      unfold getI at h
      dsimp only at h
      cases e : σ[i]? with
      | none => rw [e] at h; exact nos h
      | some o =>
        rw [e] at h
        cases o with
        | list vs => obtain ⟨v, e2, h2⟩ := map_some' (ite_some h).2; exact k1 k vs v rfl rfl e (ite_some h).1 e2 h2
        | dict kvs => obtain ⟨v, e2, h2⟩ := map_some' h; exact k2 k kvs v rfl rfl e e2 h2
    | _ => exact nos h
  | tup vs =>
    cases b with
    | int k => obtain ⟨v, e2, h2⟩ := map_some' (ite_some h).2; exact k3 vs k v rfl rfl (ite_some h).1 e2 h2
    | _ => exact nos h
  | _ => exact nos h
set_option tactic.hygienic true in
theorem getI_any {ρ : AEnv} {σ σ' : Store} {α : Nat → Addr} {s : Shared} {a b v : AV} {x y : Value} {Q : Value → Shared → Prop} {E : Value → Shared → Prop} (hm : getI a b σ = some (v, σ')) (r : R prog w c α ρ σ s.heap)
    (va : VR s.heap α σ.length a x) (vb : VR s.heap α σ.length b y) (q : ∀ z tk', σ = σ' → VR s.heap α σ.length v z → Q z { s with toks := tk' }) : SubscriptOn (model prog w) c.A x y Q E s := by
  refine getI_inv hm (fun i k vs v' ea eb e1 h0 e2 hr => ?_) (fun i k kvs v' ea eb e1 e2 hr => ?_) fun vs k v' ea eb h0 e1 hr => ?_
  · obtain ⟨hi, rfl⟩ := VR.inv_ref (ea ▸ va)
    obtain ⟨t, rfl⟩ := VR.inv_int (eb ▸ vb)
    obtain ⟨is, n1, g1, v1, l1⟩ := r.list e1
    obtain ⟨z, hz, hv⟩ := v1.get _ _ e2
    have hlt := get_lt h0 hz
    exact ⟨"list", _, slot_list_getitem.lookup, ⟨_, g1, rfl⟩, wpAny_getItem_list ⟨_, g1, rfl, _, rfl⟩ h0 (by omega) (by simpa using hz) (q z s.toks (Prod.mk.inj hr).2 ((Prod.mk.inj hr).1 ▸ hv))⟩
  · obtain ⟨hi, rfl⟩ := VR.inv_ref (ea ▸ va)
    obtain ⟨t, rfl⟩ := VR.inv_int (eb ▸ vb)
    obtain ⟨xs, hd, hk, hne, hl⟩ := r.dict e1
    obtain ⟨z, hz, hv⟩ := hk.look e2
    exact ⟨"dict", _, F.slot_dict_getitem.lookup, hd.typeIs, wpAny_getItem_of (knd := intKind prog w) (k := _) (by simp [intKind, Value.isInt]) (mapOf_of_dictOf hd) hz (q z _ (Prod.mk.inj hr).2 ((Prod.mk.inj hr).1 ▸ hv))⟩
  · obtain ⟨a, is, rfl, e, r'⟩ := VR.inv_tup (ea ▸ va)
    obtain ⟨t, rfl⟩ := VR.inv_int (eb ▸ vb)
    obtain ⟨z, hz, hv⟩ := r'.get _ _ e1
    have hlt := get_lt h0.1 hz
    exact ⟨"tuple", _, F.slot_tuple_getitem.lookup, ⟨_, e, rfl⟩, P.getItem_tuple (k := Int.toNat _) e (by omega) (by omega) (seqIndex_of h0.1 (by simpa using hlt)) (by simpa using hz) (q z s.toks (Prod.mk.inj hr).2 ((Prod.mk.inj hr).1 ▸ hv))⟩
noncomputable def aSub (a b : AM AV) : AM AV := aBin getI a b
theorem sim_Sub {e i : Expr} {pos : Pos} {ma mb : AM AV} (hs : ∀ o x, subscripted i false o x = operate [o, x] (getItem o x)) (ha : Sim prog w c (eval e c.env) ma) (hb : Sim prog w c (eval i c.env) mb) :
    Sim prog w c (eval (.Subscript e i pos) c.env) (aSub ma mb) := by
  intro ρ σ v σ' α s Q E hm R₀ q
  unfold aSub aBin at hm
  obtain ⟨a, σ1, h1, hm⟩ := abind_some (m := ma) hm
  obtain ⟨b, σ2, h2, hm⟩ := abind_some (m := mb) hm
  refine wpAny_Subscript_any hs (ha _ _ _ _ _ _ _ _ h1 R₀ fun x α1 hh1 tk1 g1 v1 => ?_)
  refine hb _ _ _ _ _ { s with heap := hh1, toks := tk1 } _ _ h2 (R₀.grow g1) fun y α2 hh2 tk2 g2 v2 => ?_
  exact getI_any (s := { s with heap := hh2, toks := tk2 }) hm ((R₀.grow g1).grow g2) (v1.up g2.up) v2 fun z tk3 e hv => by subst e; exact q z α2 hh2 tk3 (g1.trans g2) hv
end
end Inn
end
section
set_option maxRecDepth 10000
set_option linter.unusedVariables false
namespace Inn
open PySem
variable {prog : Program} {w : World}
structure Ok (c : Cx) : Prop where
  fn : c.env.scope.kind = .function
  freshL : c.h₀.get? c.env.locals = none
  freshC : ∀ x a, c.env.cells.lookup x = some a → c.h₀.get? a = none
  apartC : ∀ x y a, c.env.cells.lookup x = some a → c.env.cells.lookup y = some a → x = y
  hand : c.A.handled = none
inductive AF where
  | next
  | ret (v : AV)
inductive FR (h : Heap) (α : Nat → Addr) (n : Nat) : AF → Flow → Prop
  | next : FR h α n .next .next
  | ret {v x} : VR h α n v x → FR h α n (.ret v) (.ret x)
abbrev AS := AEnv → Store → Option (AF × AEnv × Store)
noncomputable def SimS (prog : Program) (w : World) (c : Cx) (t : Sem Flow) (m : AS) : Prop :=
  ∀ (ρ : AEnv) (σ : Store) (f : AF) (ρ' : AEnv) (σ' : Store) (α : Nat → Addr) (s : Shared) (Q : Flow → Shared → Prop) (E : Value → Shared → Prop), m ρ σ = some (f, ρ', σ') → R prog w c α ρ σ s.heap →
    (∀ x α' h' tk', R prog w c α' ρ' σ' h' → Up s.heap α σ.length h' α' σ'.length → FK s.heap h' → FR h' α' σ'.length f x → Q x { s with heap := h', toks := tk' }) → wpAny (model prog w) c.A t Q E s
section
variable {c : Cx}
abbrev KS (prog : Program) (w : World) (c : Cx) (s₀ : Shared) (α₀ : Nat → Addr) (n₀ : Nat) (Q : Flow → Shared → Prop) (f : AF) (ρ' : AEnv) (σ' : Store) : Prop :=
  ∀ x α' h' tk', R prog w c α' ρ' σ' h' → Up s₀.heap α₀ n₀ h' α' σ'.length → FK s₀.heap h' → FR h' α' σ'.length f x → Q x { s₀ with heap := h', toks := tk' }
theorem tr3 {s₀ α₀ n₀ Q} {f f' : AF} {ρ ρ' : AEnv} {σ σ' : Store} (h : some (f', ρ', σ') = some (f, ρ, σ)) (q : KS prog w c s₀ α₀ n₀ Q f ρ σ) : KS prog w c s₀ α₀ n₀ Q f' ρ' σ' := by cases h; exact q
theorem Grow.fk {h α σ h' α' σ'} (g : Grow prog w h α σ h' α' σ') : FK h h' := g.keep.fk
noncomputable def OffK (c : Cx) (h h' : Heap) : Prop := ∀ b o, h.get? b = some o → b ≠ c.env.locals → (∀ z, c.env.cells.lookup z ≠ some b) → h'.get? b = some o
theorem R.sameBut {α ρ ρ' σ h h'} {a : Addr} (ok : Ok c) (r : R prog w c α ρ σ h) (hs : ∀ b o, b ≠ a → h.get? b = some o → h'.get? b = some o) (h0 : c.h₀.get? a = none) (ha : ∀ i, i < σ.length → α i ≠ a)
    (hfx : ∀ o, h.get? a = some o → ¬ Fixed o)
    (henv : ∃ (m cm : Str → Option Value), h'.Ns c.env.locals m ∧ (∀ x a, c.env.cells.lookup x = some a → h'.IsCell a (cm x)) ∧
      (∀ x v, ρ' x = some v → c.env.kindOf x = some .local → ∃ y, m x = some y ∧ VR h α σ.length v y) ∧
      (∀ x v, ρ' x = some v → (c.env.kindOf x = some .cell ∨ c.env.kindOf x = some .free) → ∃ y, cm x = some y ∧ VR h α σ.length v y))
    (hd : ρ' ".0" = none) : R prog w c α ρ' σ h' ∧ Up h α σ.length h' α σ.length ∧ FK h h' := by
  have fk : FK h h' := fun b o e f => hs b o (fun q => hfx o (q ▸ e) f) e
  have u : Up h α σ.length h' α σ.length := ⟨Nat.le_refl _, fun _ _ => rfl, fk.vk⟩
  refine ⟨⟨fun b o e => hs b o (fun q => by subst q; rw [h0] at e; cases e) (r.keep b o e), ?_, hd, fun i o e => ?_, r.inj, r.own, r.apart⟩, u, fk⟩
  · obtain ⟨m, cm, e1, e2, e3, e4⟩ := henv
    exact ⟨m, cm, e1, e2, fun x v hx hk => let ⟨y, hy, hv⟩ := e3 x v hx hk; ⟨y, hy, hv.up u⟩, fun x v hx hk => let ⟨y, hy, hv⟩ := e4 x v hx hk; ⟨y, hy, hv.up u⟩⟩
  · have hi : i < σ.length := (List.getElem?_eq_some_iff.mp e).1
    exact (r.objs i o e).up u fun ob ho => hs _ _ (ha i hi) ho
theorem store_local {α ρ σ} {s : Shared} {x : Str} {v : AV} {y : Value} {Q : Unit → Shared → Prop} {E} (ok : Ok c) (r : R prog w c α ρ σ s.heap) (hl : c.env.kindOf x = some .local) (hx : x ≠ ".0") (hv : VR s.heap α σ.length v y)
    (q : ∀ h' tk', R prog w c α (upd ρ x v) σ h' → Up s.heap α σ.length h' α σ.length → FK s.heap h' → (∀ b o, b ≠ c.env.locals → s.heap.get? b = some o → h'.get? b = some o) → Q () { s with heap := h', toks := tk' }) : wpAny (model prog w) c.A (storeName c.env x y) Q E s := by
  obtain ⟨m, cm, e1, e2, e3, e4⟩ := r.env
  refine wpAny_storeName_local hl e1 (fun h' hn hs => ?_) (by rw [ok.fn]; rfl)
  obtain ⟨ob, es, ep, ho, hdt, _⟩ := id e1
  have hc : ∀ z a, c.env.cells.lookup z = some a → a ≠ c.env.locals := fun z a hz q => by
    obtain ⟨o', ho', hd'⟩ := e2 z a hz
    rw [q, ho] at ho'; cases ho'; rw [hdt] at hd'; cases hd'
  have henv : ∃ (m cm : Str → Option Value), h'.Ns c.env.locals m ∧ (∀ x a, c.env.cells.lookup x = some a → h'.IsCell a (cm x)) ∧
      (∀ z v', upd ρ x v z = some v' → c.env.kindOf z = some .local → ∃ y, m z = some y ∧ VR s.heap α σ.length v' y) ∧
      (∀ z v', upd ρ x v z = some v' → (c.env.kindOf z = some .cell ∨ c.env.kindOf z = some .free) → ∃ y, cm z = some y ∧ VR s.heap α σ.length v' y) := by
    refine ⟨_, cm, hn, fun z a hz => (e2 z a hz).sameBut hs (hc z a hz), fun z v' hz hk => ?_, fun z v' hz hk => ?_⟩
    · by_cases hzx : z = x
      · subst hzx
        simp only [upd, if_true, Option.some.injEq] at hz
        subst hz
        exact ⟨y, by simp, hv⟩
      · simp only [upd, hzx, if_false] at hz ⊢
        exact e3 z v' hz hk
    · have hzx : z ≠ x := fun e => by subst e; rw [hl] at hk; simp at hk
      simp only [upd, hzx, if_false] at hz
      exact e4 z v' hz hk
  obtain ⟨r', u, fk⟩ := R.sameBut (ρ' := upd ρ x v) (a := c.env.locals) ok r (fun b o hb e => hs.extBut b o hb e) ok.freshL (fun i hi => r.apart i hi) (fun o e f => by
      rw [ho] at e; cases e
      rcases f with ⟨vs, f⟩ | ⟨_, xs, n, f⟩ <;> rw [hdt] at f <;> cases f) henv (by
      have : ¬ ((".0" : Str) = x) := fun e => hx e.symm
      simp only [upd, this, if_false]; exact r.dot)
  exact q h' _ r' u fk fun b o hb e => hs.extBut b o hb e
theorem store_cell {α ρ σ} {s : Shared} {x : Str} {v : AV} {y : Value} {Q : Unit → Shared → Prop} {E} (ok : Ok c) (r : R prog w c α ρ σ s.heap) (hl : c.env.kindOf x = some .cell) (hcx : (c.env.cells.lookup x).isSome = true) (hx : x ≠ ".0") (hv : VR s.heap α σ.length v y)
    (q : ∀ h' tk', R prog w c α (upd ρ x v) σ h' → Up s.heap α σ.length h' α σ.length → FK s.heap h' → OffK c s.heap h' → Q () { s with heap := h', toks := tk' }) : wpAny (model prog w) c.A (storeName c.env x y) Q E s := by
  obtain ⟨m, cm, e1, e2, e3, e4⟩ := r.env
  obtain ⟨a, ha⟩ := Option.isSome_iff_exists.mp hcx
  have hca := e2 x a ha
  refine wpAny_storeName_cell ok.fn hl ha hca (fun h' hc' hs => ?_)
  obtain ⟨oa, hoa, hda⟩ := id hca
  have hLa : c.env.locals ≠ a := fun e => by
    obtain ⟨ob, es, ep, ho, hdt, _⟩ := e1
    rw [e, hoa] at ho; cases ho; rw [hda] at hdt; cases hdt
  have henv : ∃ (m cm : Str → Option Value), h'.Ns c.env.locals m ∧ (∀ x a, c.env.cells.lookup x = some a → h'.IsCell a (cm x)) ∧
      (∀ z v', upd ρ x v z = some v' → c.env.kindOf z = some .local → ∃ y, m z = some y ∧ VR s.heap α σ.length v' y) ∧
      (∀ z v', upd ρ x v z = some v' → (c.env.kindOf z = some .cell ∨ c.env.kindOf z = some .free) → ∃ y, cm z = some y ∧ VR s.heap α σ.length v' y) := by
    refine ⟨m, fun z => if z = x then some y else cm z, e1.sameBut hs hLa, fun z b hz => ?_, fun z v' hz hk => ?_, fun z v' hz hk => ?_⟩
    · by_cases hzx : z = x
      · subst hzx
        rw [ha] at hz; cases hz
        simpa using hc'
      · simp only [hzx, if_false]
        exact (e2 z b hz).sameBut hs fun e => hzx (ok.apartC z x a (e ▸ hz) ha)
    · have hzx : z ≠ x := fun e => by subst e; rw [hl] at hk; simp at hk
      simp only [upd, hzx, if_false] at hz
      exact e3 z v' hz hk
    · by_cases hzx : z = x
      · subst hzx
        simp only [upd, if_true, Option.some.injEq] at hz
        subst hz
        exact ⟨y, by simp, hv⟩
      · simp only [upd, hzx, if_false] at hz ⊢
        exact e4 z v' hz hk
  obtain ⟨r', u, fk⟩ := R.sameBut (ρ' := upd ρ x v) (a := a) ok r (fun b o hb e => hs.extBut b o hb e) (ok.freshC x a ha) (fun i hi e => by
      obtain ⟨ob, ho, _, hnc⟩ := (r.objs i σ[i] (by simp [hi])).some
      rw [e, hoa] at ho; cases ho; exact hnc _ hda) (fun o e f => by
      rw [hoa] at e; cases e
      rcases f with ⟨vs, f⟩ | ⟨_, xs, n, f⟩ <;> rw [hda] at f <;> cases f) henv (by
      have : ¬ ((".0" : Str) = x) := fun e => hx e.symm
      simp only [upd, this, if_false]; exact r.dot)
  exact q h' _ r' u fk fun b o e _ hb => hs.extBut b o (fun e' => hb x (e' ▸ ha)) e
noncomputable def Storable (c : Cx) (x : Str) : Prop := x ≠ ".0" ∧ (c.env.kindOf x = some .local ∨ (c.env.kindOf x = some .cell ∧ (c.env.cells.lookup x).isSome = true))
theorem store_any {α ρ σ} {s : Shared} {x : Str} {v : AV} {y : Value} {Q : Unit → Shared → Prop} {E} (ok : Ok c) (st : Storable c x) (r : R prog w c α ρ σ s.heap) (hv : VR s.heap α σ.length v y)
    (q : ∀ h' tk', R prog w c α (upd ρ x v) σ h' → Up s.heap α σ.length h' α σ.length → FK s.heap h' → OffK c s.heap h' → Q () { s with heap := h', toks := tk' }) : wpAny (model prog w) c.A (storeName c.env x y) Q E s :=
  st.2.elim (fun h => store_local ok r h st.1 hv fun h' tk' r' u k o => q h' tk' r' u k fun b ob e hb _ => o b ob hb e) fun h => store_cell ok r h.1 h.2 st.1 hv q
noncomputable def sAssign (x : Str) (m : AM AV) : AS := fun ρ σ => (m ρ σ).bind fun p => some (.next, upd ρ x p.1, p.2)
theorem simS_Assign {x : Str} {pos' : Pos} {value : Expr} {pos : Pos} {m : AM AV} (ok : Ok c) (st : Storable c x) (hs : swapsWith value (some (.Name x pos')) pos.line c.env = pure false) (h : Sim prog w c (eval value c.env) m) :
    SimS prog w c (exec (.Assign [.Name x pos'] value pos) c.env) (sAssign x m) := by
  intro ρ σ f ρ' σ' α s Q E hm r q
  obtain ⟨⟨v, σ1⟩, h1, hm⟩ := bind_some' hm
  (first | replace q := tr2 hm q | replace q := tr3 hm q | cases hm)
  refine wpAny_Assign_Name (h _ _ _ _ _ _ _ _ h1 r fun x α1 hh1 tk1 g1 v1 => ?_) hs
  exact store_any (s := { s with heap := hh1, toks := tk1 }) ok st (r.grow g1) v1 fun h' tk' r' u fk _ => q _ α1 h' tk' r' (g1.up.trans u) (g1.fk.trans fk) .next
noncomputable def sRet (m : AM AV) : AS := fun ρ σ => (m ρ σ).bind fun p => some (.ret p.1, ρ, p.2)
theorem simS_Return {e : Expr} {pos : Pos} {m : AM AV} (h : Sim prog w c (eval e c.env) m) : SimS prog w c (exec (.Return (some e) pos) c.env) (sRet m) := by
  intro ρ σ f ρ' σ' α s Q E hm r q
  obtain ⟨⟨v, σ1⟩, h1, hm⟩ := bind_some' hm
  (first | replace q := tr2 hm q | replace q := tr3 hm q | cases hm)
  exact wpAny_Return_some (h _ _ _ _ _ _ _ _ h1 r fun x α1 hh1 tk1 g1 v1 => q _ α1 hh1 tk1 (r.grow g1) g1.up g1.fk (.ret v1))
noncomputable def sSeq (a b : AS) : AS := fun ρ σ => (a ρ σ).bind fun p => match p with
  | (.next, ρ', σ') => b ρ' σ'
  | (.ret v, ρ', σ') => some (.ret v, ρ', σ')
noncomputable def sNil : AS := fun ρ σ => some (.next, ρ, σ)
theorem simS_nil : SimS prog w c (execs [] c.env) sNil := by
  intro ρ σ f ρ' σ' α s Q E hm r q
  (first | replace q := tr2 hm q | replace q := tr3 hm q | cases hm)
  exact wpAny_execs_nil (q _ α s.heap s.toks r (Up.refl ..) (FK.refl _) .next)
theorem simS_cons {st : Stmt} {rest : List Stmt} {a b : AS} (h : SimS prog w c (exec st c.env) a) (hr : SimS prog w c (execs rest c.env) b) : SimS prog w c (execs (st :: rest) c.env) (sSeq a b) := by
  intro ρ σ f ρ' σ' α s Q E hm r q
  obtain ⟨⟨f1, ρ1, σ1⟩, h1, hm⟩ := bind_some' hm
  refine wpAny_execs_cons (h _ _ _ _ _ _ _ _ _ h1 r fun x α1 hh1 tk1 r1 u1 k1 v1 => ?_)
  cases v1 with
  | next => exact hr _ _ _ _ _ _ { s with heap := hh1, toks := tk1 } _ _ hm r1 fun x α2 hh2 tk2 r2 u2 k2 v2 => q _ α2 hh2 tk2 r2 (u1.trans u2) (k1.trans k2) v2
  | ret v => (first | replace q := tr2 hm q | replace q := tr3 hm q | cases hm); exact q _ α1 hh1 tk1 r1 u1 k1 (.ret v)
noncomputable def sIf (t : AM Bool) (a b : AS) : AS := fun ρ σ => (t ρ σ).bind fun p => if p.1 then a ρ p.2 else b ρ p.2
theorem simS_If {test : Expr} {body orelse : List Stmt} {pos : Pos} {t : AM Bool} {a b : AS} (ht : SimB prog w c (isTrue test c.env (eval test c.env)) t) (ha : SimS prog w c (execs body c.env) a) (hb : SimS prog w c (execs orelse c.env) b) :
    SimS prog w c (exec (.If test body orelse pos) c.env) (sIf t a b) := by
  intro ρ σ f ρ' σ' α s Q E hm r q
  obtain ⟨⟨v, σ1⟩, h1, hm⟩ := bind_some' hm
  refine wpAny_If (ht _ _ _ _ _ _ _ _ h1 r fun x α1 hh1 tk1 g1 v1 => ?_)
  subst v1
  cases v with
  | true => exact ha _ _ _ _ _ _ { s with heap := hh1, toks := tk1 } _ _ hm (r.grow g1) fun x α2 hh2 tk2 r2 u2 k2 v2 => q _ α2 hh2 tk2 r2 (g1.up.trans u2) (g1.fk.trans k2) v2
  | false => exact hb _ _ _ _ _ _ { s with heap := hh1, toks := tk1 } _ _ hm (r.grow g1) fun x α2 hh2 tk2 r2 u2 k2 v2 => q _ α2 hh2 tk2 r2 (g1.up.trans u2) (g1.fk.trans k2) v2
noncomputable def whileN (t : AM Bool) (b : AS) : Nat → AS
  | 0 => fun _ _ => none
  | n + 1 => fun ρ σ => (t ρ σ).bind fun p => if p.1 then (b ρ p.2).bind fun
      | (.next, ρ', σ') => whileN t b n ρ' σ'
      | (.ret v, ρ', σ') => some (.ret v, ρ', σ')
    else some (.next, ρ, p.2)
noncomputable def sWhile (t : AM Bool) (b : AS) : AS := whileN t b 1000
end
end Inn
end
section
set_option maxRecDepth 10000
set_option linter.unusedVariables false
namespace Inn
open PySem
variable {prog : Program} {w : World}
section
variable {c : Cx}
theorem whileN_inv {t : AM Bool} {b : AS} {n : Nat} {ρ : AEnv} {σ : Store} {r} (h : whileN t b n ρ σ = some r) : ∃ m v σ1, n = m + 1 ∧ t ρ σ = some (v, σ1) ∧ (if v then (b ρ σ1).bind fun
      | (.next, ρ', σ') => whileN t b m ρ' σ'
      | (.ret v, ρ', σ') => some (.ret v, ρ', σ')
    else some (.next, ρ, σ1)) = some r := by
  cases n with
  | zero => (first | exact nos h | cases h)
  | succ n => obtain ⟨⟨v, σ1⟩, h1, h⟩ := bind_some' h; exact ⟨n, v, σ1, rfl, h1, h⟩
inductive Run (prog : Program) (w : World) (c : Cx) (α₀ : Nat → Addr) (n₀ : Nat) (s₀ : Shared) (P : AEnv → Store → Heap → Prop) : Shared → Prop
  | mk (α : Nat → Addr) (ρ : AEnv) (σ : Store) (h : Heap) (tk : Nat) (p : P ρ σ h) (r : R prog w c α ρ σ h) (u : Up s₀.heap α₀ n₀ h α σ.length) (k : FK s₀.heap h) : Run prog w c α₀ n₀ s₀ P { s₀ with heap := h, toks := tk }
theorem simS_While {test : Expr} {body : List Stmt} {pos : Pos} {t : AM Bool} {b : AS} (ht : SimB prog w c (isTrue test c.env (eval test c.env)) t) (hb : SimS prog w c (execs body c.env) b) :
    SimS prog w c (exec (.While test body [] pos) c.env) (sWhile t b) := by
  intro ρ₀ σ₀ f ρ' σ' α₀ s₀ Q E hm r₀ q
  refine wpAny_While (codeAny_whileLoop (fun n s => Run prog w c α₀ σ₀.length s₀ (fun ρ σ _ => whileN t b n ρ σ = some (f, ρ', σ')) s) ?_ 1000
    (Run.mk (s₀ := s₀) α₀ ρ₀ σ₀ s₀.heap s₀.toks hm r₀ (Up.refl ..) (FK.refl _)))
  refine fun n s hI => wpAny_gen fun X hX => ?_
  induction hI with
  | mk α ρ σ h tk hm r u k =>
  obtain ⟨m, v, σ1, hn, h1, hm⟩ := whileN_inv hm
  refine ht _ _ _ _ _ { s₀ with heap := h, toks := tk } _ _ h1 r fun x α1 hh1 tk1 g1 v1 => ?_
  subst v1
  cases v with
  | false =>
    replace q := tr3 hm q
    exact hX _ _ (wpAny_execs_nil (q _ α1 hh1 tk1 (r.grow g1) (u.trans g1.up) (k.trans g1.fk) .next))
  | true =>
    obtain ⟨⟨f1, ρ1, σ2⟩, h2, hm⟩ := bind_some' hm
    refine hX _ _ (wpAny_gen fun Y hY => hb _ _ _ _ _ _ { s₀ with heap := hh1, toks := tk1 } _ _ h2 (r.grow g1) fun x α2 hh2 tk2 r2 u2 k2 v2 => ?_)
    cases v2 with
    | next => exact hY _ _ ⟨m, hn ▸ Nat.lt_succ_self _, .mk α2 ρ1 σ2 hh2 tk2 hm r2 ((u.trans g1.up).trans u2) ((k.trans g1.fk).trans k2)⟩
    | ret v =>
      replace q := tr3 hm q
      exact hY _ _ (q _ α2 hh2 tk2 r2 ((u.trans g1.up).trans u2) ((k.trans g1.fk).trans k2) (.ret v))
noncomputable def forR (x : Str) (b : AS) : List AV → AS
  | [] => sNil
  | v :: rest => fun ρ σ => (b (upd ρ x v) σ).bind fun
      | (.next, ρ', σ') => forR x b rest ρ' σ'
      | (.ret u, ρ', σ') => some (.ret u, ρ', σ')
open Classical in
noncomputable def forL (i : Nat) (vs : List AV) (x : Str) (b : AS) : List AV → AS
  | [] => fun ρ σ => if σ[i]? = some (.list vs) then some (.next, ρ, σ) else none
  | v :: rest => fun ρ σ => if σ[i]? = some (.list vs) then (b (upd ρ x v) σ).bind fun
      | (.next, ρ', σ') => forL i vs x b rest ρ' σ'
      | (.ret u, ρ', σ') => some (.ret u, ρ', σ')
    else none
noncomputable def rngL (lo hi : Int) : List AV := (List.range (hi - lo).toNat).map fun k : Nat => AV.int (lo + (k : Int))
abbrev rangeOk (lo hi : Int) : Prop := -(2 ^ 62) ≤ lo ∧ lo < 2 ^ 62 ∧ -(2 ^ 62) ≤ hi ∧ hi < 2 ^ 62
noncomputable def sFor (x : Str) (src : AM AV) (b : AS) : AS := fun ρ σ => (src ρ σ).bind fun p => match p.1 with
  | .rng lo hi => if rangeOk lo hi then forR x b (rngL lo hi) ρ p.2 else none
  | .ref i => (match p.2[i]? with
    | some (.list vs) => forL i vs x b vs ρ p.2
    | _ => none)
  | _ => none
theorem R.iter {α ρ σ h h'} {I : Addr} {o : Obj} {vs : Array Value} {T : String} (r : R prog w c α ρ σ h) (hI : h.get? I = some o) (hd : o.data = .fields vs) (hc : o.cls = .type T) (hT : T ≠ "tuple" ∧ T ≠ "range" ∧ T ≠ "dict_values") (h0 : c.h₀.get? I = none)
    (hs : ∀ b ob, b ≠ I → h.get? b = some ob → h'.get? b = some ob) : R prog w c α ρ σ h' ∧ VK h h' := by
  have vk : VK h h' := fun b ob e f => hs b ob (fun q => by
    subst q; rw [hI] at e; cases e
    rcases f with ⟨f, _⟩ | ⟨f | f, _⟩ <;> rw [hc] at f <;> injection f with f
    · exact hT.1 f
    · exact hT.2.1 f
    · exact hT.2.2 f) e
  have u : Up h α σ.length h' α σ.length := ⟨Nat.le_refl _, fun _ _ => rfl, vk⟩
  have hne : ∀ b ob, h.get? b = some ob → (∀ vs, ob.data ≠ .fields vs) → b ≠ I := fun b ob e f q => by
    subst q; rw [hI] at e; cases e; exact f _ hd
  obtain ⟨m, cm, e1, e2, e3, e4⟩ := r.env
  refine ⟨⟨fun b ob e => hs b ob (fun q => by subst q; rw [h0] at e; cases e) (r.keep b ob e), ⟨m, cm, ?_, fun x a hx => ?_, fun x v hx hk => let ⟨y, hy, hv⟩ := e3 x v hx hk; ⟨y, hy, hv.up u⟩, fun x v hx hk => let ⟨y, hy, hv⟩ := e4 x v hx hk; ⟨y, hy, hv.up u⟩⟩, r.dot, fun i ob e => ?_, r.inj, r.own, r.apart⟩, vk⟩
  · obtain ⟨ob, es, ep, ho, hdt, rest⟩ := e1
    exact ⟨ob, es, ep, hs _ _ (hne _ _ ho (fun vs => by rw [hdt]; simp)) ho, hdt, rest⟩
  · obtain ⟨ob, ho, hdt⟩ := e2 x a hx
    exact ⟨ob, hs _ _ (hne _ _ ho (fun vs => by rw [hdt]; simp)) ho, hdt⟩
  · refine (r.objs i ob e).up u fun ob' ho => hs _ _ (fun q => ?_) ho
    obtain ⟨ob2, ho2, hf, _⟩ := (r.objs i ob e).some
    rw [q, hI] at ho2; cases ho2
    exact hf (.inl ⟨_, hd⟩)
theorem R.h0_none {α ρ σ h} (r : R prog w c α ρ σ h) : c.h₀.get? h.objs.size = none := by
  cases e : c.h₀.get? h.objs.size with
  | none => rfl
  | some o => exact absurd (Heap.lt_size (r.keep _ _ e)) (Nat.lt_irrefl _)
theorem FK.off {h h' h'' : Heap} {I : Addr} (k : FK h h') (hn : h.get? I = none) (hs : ∀ b ob, b ≠ I → h'.get? b = some ob → h''.get? b = some ob) : FK h h'' := fun b o e f => hs b o (fun q => by subst q; rw [hn] at e; cases e) (k b o e f)
theorem bind_next {o : Option (AF × AEnv × Store)} {k : AEnv → Store → Option (AF × AEnv × Store)} {r} (h : (o.bind fun
      | (.next, ρ', σ') => k ρ' σ'
      | (.ret u, ρ', σ') => some (.ret u, ρ', σ')) = some r) : ∃ f1 ρ1 σ1, o = some (f1, ρ1, σ1) ∧ (match f1 with | .next => k ρ1 σ1 | .ret u => some (.ret u, ρ1, σ1)) = some r := by
  obtain ⟨⟨f1, ρ1, σ1⟩, h2, h⟩ := bind_some' h
  refine ⟨f1, ρ1, σ1, h2, ?_⟩
  cases f1 <;> exact h
theorem R.turn {α ρ σ h h'} {I : Addr} {o : Obj} {vs : Array Value} {T : String} {s₀ : Shared} {α₀ : Nat → Addr} {n₀ : Nat} (r : R prog w c α ρ σ h) (hI : h.get? I = some o) (hd : o.data = .fields vs) (hc : o.cls = .type T) (hT : T ≠ "tuple" ∧ T ≠ "range" ∧ T ≠ "dict_values") (h0 : c.h₀.get? I = none)
    (hn : s₀.heap.get? I = none) (u : Up s₀.heap α₀ n₀ h α σ.length) (fk : FK s₀.heap h) (hs : ∀ b ob, b ≠ I → h.get? b = some ob → h'.get? b = some ob) : R prog w c α ρ σ h' ∧ Up h α σ.length h' α σ.length ∧ Up s₀.heap α₀ n₀ h' α σ.length ∧ FK s₀.heap h' :=
  have k := r.iter hI hd hc hT h0 hs
  have u' : Up h α σ.length h' α σ.length := ⟨Nat.le_refl _, fun _ _ => rfl, k.2⟩
  ⟨k.1, u', u.trans u', fk.off hn hs⟩
theorem for_range {x : Str} {px : Pos} {body : List Stmt} {b : AS} {I : Addr} (ok : Ok c) (st : Storable c x) (hb : SimS prog w c (execs body c.env) b)
    {ρ₀ : AEnv} {σ₀ : Store} {f : AF} {ρ' : AEnv} {σ' : Store} {α₀ : Nat → Addr} {s₀ : Shared} {h₁ : Heap} {tk₁ : Nat} {lo : Int} {n : Nat} {RR : Result → Shared → Prop}
    (hm : forR x b ((List.range n).map fun k : Nat => AV.int (lo + (k : Int))) ρ₀ σ₀ = some (f, ρ', σ')) (r₀ : R prog w c α₀ ρ₀ σ₀ h₁) (hn : s₀.heap.get? I = none) (hn0 : c.h₀.get? I = none) (u₀ : Up s₀.heap α₀ σ₀.length h₁ α₀ σ₀.length) (k₀ : FK s₀.heap h₁) (hI : IsRangeIter h₁ I lo n 1)
    (q : ∀ x α' h' tk', R prog w c α' ρ' σ' h' → Up s₀.heap α₀ σ₀.length h' α' σ'.length → FK s₀.heap h' → FR h' α' σ'.length f x → RR (.ok x) { s₀ with heap := h', toks := tk' }) :
    codeAny (model prog w) c.A (.forLoop (.Name x px) (.ref I) body [] c.env) RR { s₀ with heap := h₁, toks := tk₁ } := by
  refine codeAny_forLoop (fun k s => Run prog w c α₀ σ₀.length s₀ (fun ρ σ h => ∃ j : Nat, n = j + k ∧ forR x b (((List.range n).map fun k : Nat => AV.int (lo + (k : Int))).drop j) ρ σ = some (f, ρ', σ') ∧ IsRangeIter h I (lo + j) k 1) s) ?_ n
    (.mk α₀ ρ₀ σ₀ h₁ tk₁ ⟨0, by exact ar_21, by simpa using hm, by simpa using hI⟩ r₀ u₀ k₀)
  refine fun k s hI => wpAny_gen fun X hX => ?_
  induction hI with
  | mk α ρ σ h tk hm r u fk =>
  obtain ⟨j, hj, hm, hI⟩ := hm
  cases k with
  | zero =>
    refine wpAny_pyNext_range_end ok.hand hI (by simp) fun h' hs => ?_
    rw [List.drop_eq_nil_of_le (by simp; exact Nat.le_of_eq hj)] at hm
    replace q := tr3 (Q := fun x s => RR (.ok x) s) hm q
    obtain ⟨r', _, u', fk'⟩ := r.turn hI rfl rfl (by decide) hn0 hn u fk (fun b ob hb e => hs b ob hb e)
    exact hX _ _ (wpAny_execs_nil (q _ α h' tk r' u' fk' .next))
  | succ k =>
    refine wpAny_pyNext_range_item hI (by exact ar_23) fun h' hI' hs => ?_
    rw [List.drop_eq_getElem_cons (by simp; exact ar_24 hj)] at hm
    rw [List.getElem_map, List.getElem_range] at hm
    obtain ⟨f1, ρ1, σ1, h2, hm⟩ := bind_next hm
    obtain ⟨r', _, u', fk'⟩ := r.turn hI rfl rfl (by decide) hn0 hn u fk (fun b ob hb e => hs.extBut b ob hb e)
    refine hX _ _ (wpAny_assign_Name (store_any (s := { s₀ with heap := h', toks := tk + 1 }) ok st r' (.int (lo + j) _) fun h2' tk2 r2 u2 k2 _ => wpAny_gen fun Y hY => ?_))
    refine hb _ _ _ _ _ _ { s₀ with heap := h2', toks := tk2 } _ _ h2 r2 fun y α3 h3 tk3 r3 u3 k3 v3 => ?_
    cases v3 with
    | next =>
      refine hY _ _ ⟨k, Nat.lt_succ_self _, .mk α3 ρ1 σ1 h3 tk3 ⟨j + 1, by exact ar_25 hj, hm, ?_⟩ r3 ((u'.trans u2).trans u3) ((fk'.trans k2).trans k3)⟩
      have e1 : lo + ((j + 1 : Nat) : Int) = lo + j + 1 := by exact ar_26
      have e2 : ((k + 1 : Nat) : Int) - 1 = (k : Int) := by exact ar_27
      rw [e1]
      rw [e2] at hI'
      exact k3 _ _ (k2 _ _ hI' (.inl ⟨_, rfl⟩)) (.inl ⟨_, rfl⟩)
    | ret v =>
      replace q := tr3 (Q := fun x s => RR (.ok x) s) hm q
      exact hY _ _ (q _ α3 h3 tk3 r3 ((u'.trans u2).trans u3) ((fk'.trans k2).trans k3) (.ret v))
theorem R.list' {ρ : AEnv} {σ : Store} {α : Nat → Addr} {h : Heap} {i : Nat} {vs : List AV} {a} (r : R prog w c α ρ σ h) (e : σ[i]? = some (.list vs)) (ha : α i = a) :
    ∃ items ep, h.get? a = some { cls := .type "list", data := .seq (items : List Value).toArray ep } ∧ VRs h α σ.length vs items ∧ items.length ≤ 1000000 := ha ▸ r.list e
theorem for_list {x : Str} {px : Pos} {body : List Stmt} {b : AS} {I : Addr} {i : Nat} {vs : List AV} (ok : Ok c) (st : Storable c x) (hb : SimS prog w c (execs body c.env) b)
    {ρ₀ : AEnv} {σ₀ : Store} {f : AF} {ρ' : AEnv} {σ' : Store} {α₀ : Nat → Addr} {s₀ : Shared} {h₁ : Heap} {tk₁ : Nat} {RR : Result → Shared → Prop} (hi : i < σ₀.length)
    (hm : forL i vs x b vs ρ₀ σ₀ = some (f, ρ', σ')) (r₀ : R prog w c α₀ ρ₀ σ₀ h₁) (hn : s₀.heap.get? I = none) (hn0 : c.h₀.get? I = none) (u₀ : Up s₀.heap α₀ σ₀.length h₁ α₀ σ₀.length) (k₀ : FK s₀.heap h₁) (hI : h₁.IsListIter I (α₀ i) 0)
    (q : ∀ x α' h' tk', R prog w c α' ρ' σ' h' → Up s₀.heap α₀ σ₀.length h' α' σ'.length → FK s₀.heap h' → FR h' α' σ'.length f x → RR (.ok x) { s₀ with heap := h', toks := tk' }) :
    codeAny (model prog w) c.A (.forLoop (.Name x px) (.ref I) body [] c.env) RR { s₀ with heap := h₁, toks := tk₁ } := by
  refine codeAny_forLoop (fun k s => Run prog w c α₀ σ₀.length s₀ (fun ρ σ h => ∃ j : Nat, vs.length = j + k ∧ forL i vs x b (vs.drop j) ρ σ = some (f, ρ', σ') ∧ h.IsListIter I (α₀ i) j) s) ?_ vs.length
    (.mk α₀ ρ₀ σ₀ h₁ tk₁ ⟨0, by exact ar_21, by simpa using hm, hI⟩ r₀ u₀ k₀)
  refine fun k s hI => wpAny_gen fun X hX => ?_
  induction hI with
  | mk α ρ σ h tk hm r u fk =>
  obtain ⟨j, hj, hm, hI⟩ := hm
  obtain ⟨oI, gI, cI, dI⟩ := id hI
  cases k with
  | zero =>
    rw [List.drop_eq_nil_of_le (show vs.length ≤ j from Nat.le_of_eq hj)] at hm
    have e1 := ite_some hm
    replace q := tr3 (Q := fun x s => RR (.ok x) s) e1.2 q
    obtain ⟨is, n1, g1, v1, _⟩ := r.list' e1.1 (u.agree i hi)
    refine wpAny_pyNext_list_end ok.hand hI ⟨_, g1, rfl, _, rfl⟩ (List.getElem?_toArray.trans (List.getElem?_eq_none (Nat.le_of_eq (v1.length.symm.trans hj)))) fun h' hs => ?_
    obtain ⟨r', _, u', fk'⟩ := r.turn gI dI cI (by decide) hn0 hn u fk (fun b ob hb e => hs b ob hb e)
    exact hX _ _ (wpAny_execs_nil (q _ α h' tk r' u' fk' .next))
  | succ k =>
    have hlt : j < vs.length := hj ▸ Nat.lt_add_of_pos_right (Nat.succ_pos k)
    rw [List.drop_eq_getElem_cons hlt] at hm
    have e1 := ite_some hm
    obtain ⟨is, n1, g1, v1, _⟩ := r.list' e1.1 (u.agree i hi)
    obtain ⟨y, hy, hv⟩ := v1.get j vs[j] (List.getElem?_eq_getElem hlt)
    refine wpAny_pyNext_list_item hI ⟨_, g1, rfl, _, rfl⟩ (x := y) (List.getElem?_toArray.trans hy) fun h' hI' hs => ?_
    obtain ⟨f1, ρ1, σ1, h2, hm⟩ := bind_next e1.2
    obtain ⟨r', ux, u', fk'⟩ := r.turn gI dI cI (by decide) hn0 hn u fk (fun b ob hb e => hs.extBut b ob hb e)
    refine hX _ _ (wpAny_assign_Name (store_any (s := { s₀ with heap := h', toks := tk }) ok st r' (hv.up ux) fun h2' tk2 r2 u2 k2 _ => wpAny_gen fun Y hY => ?_))
    refine hb _ _ _ _ _ _ { s₀ with heap := h2', toks := tk2 } _ _ h2 r2 fun y α3 h3 tk3 r3 u3 k3 v3 => ?_
    cases v3 with
    | next =>
      refine hY _ _ ⟨k, Nat.lt_succ_self _, .mk α3 ρ1 σ1 h3 tk3 ⟨j + 1, hj.trans (Nat.add_right_comm j k 1), hm, ?_⟩ r3 ((u'.trans u2).trans u3) ((fk'.trans k2).trans k3)⟩
      obtain ⟨o, g, cc, d⟩ := hI'
      exact ⟨o, k3 _ _ (k2 _ _ g (.inl ⟨_, d⟩)) (.inl ⟨_, d⟩), cc, d⟩
    | ret v =>
      replace q := tr3 (Q := fun x s => RR (.ok x) s) hm q
      exact hY _ _ (q _ α3 h3 tk3 r3 ((u'.trans u2).trans u3) ((fk'.trans k2).trans k3) (.ret v))
theorem sFor_inv {x : Str} {src : AM AV} {b : AS} {ρ : AEnv} {σ : Store} {r} {C : Prop} (h : sFor x src b ρ σ = some r) (k1 : ∀ σ1 lo hi, src ρ σ = some (.rng lo hi, σ1) → rangeOk lo hi → forR x b (rngL lo hi) ρ σ1 = some r → C)
    (k2 : ∀ σ1 i vs, src ρ σ = some (.ref i, σ1) → σ1[i]? = some (.list vs) → forL i vs x b vs ρ σ1 = some r → C) : C := by
  obtain ⟨⟨v, σ1⟩, h1, h⟩ := bind_some' h
  cases v with
  | rng lo hi => exact k1 σ1 lo hi h1 (ite_some h).1 (ite_some h).2
  | ref i =>
    replace k2 := k2 σ1 i
    dsimp only at h
    cases e : σ1[i]? with
    | none => rw [e] at h; cases h
    | some o =>
      rw [e] at h
      cases o with
      | list vs => exact k2 vs h1 e h
      | dict _ => (first | exact nos h | cases h)
  | _ => (first | exact nos h | cases h)
theorem VR.inv_rng {h α n lo hi x} (r : VR h α n (.rng lo hi) x) : ∃ a t u v, x = .ref a ∧ IsRange h a lo hi 1 t u v := by cases r with | rng e => exact ⟨_, _, _, _, rfl, e⟩
theorem R.push {α ρ σ h} (r : R prog w c α ρ σ h) (o : Obj) : R prog w c α ρ σ (h.push o) ∧ Up h α σ.length (h.push o) α σ.length ∧ FK h (h.push o) :=
  ⟨r.grow (Grow.same (HK.push _ _) α σ), ⟨Nat.le_refl _, fun _ _ => rfl, (HK.push h o).vk⟩, (HK.push h o).fk⟩
set_option tactic.hygienic true in
theorem simS_For {x : Str} {px pos : Pos} {iter : Expr} {body : List Stmt} {src : AM AV} {b : AS} (ok : Ok c) (st : Storable c x) (hs : ∀ v, foldedSetIterable iter c.env v = pure v) (hsrc : Sim prog w c (eval iter c.env) src) (hb : SimS prog w c (execs body c.env) b) :
    SimS prog w c (exec (.For (.Name x px) iter body [] pos) c.env) (sFor x src b) := by
  intro ρ σ f ρ' σ' α s Q E hm r q
  have fin : ∀ {h1 α1 σ1 tk1}, Grow prog w s.heap α σ h1 α1 σ1 → KS prog w c { s with heap := h1, toks := tk1 } α1 σ1.length Q f ρ' σ' :=
    fun g1 x α' h' tk' r' u' k' v' => q x α' h' tk' r' (g1.up.trans u') (g1.fk.trans k') v'
  refine sFor_inv hm (fun σ1 lo hi h1 hok hm => ?_) fun σ1 i vs h1 e1 hm => ?_
  · refine wpAny_For (hsrc _ _ _ _ _ _ _ _ h1 r fun y α1 hh1 tk1 g1 v1 => wpAny_gen fun X hX => ?_) hs
    obtain ⟨a, t, u, v, rfl, hr⟩ := v1.inv_rng
    refine wpAny_pyIter_range hr (small_one hok.1 hok.2.1 hok.2.2.1 hok.2.2.2) ?_
    have e : Builtin.Range.rangeSize lo hi 1 = ((hi - lo).toNat : Int) := by rw [rangeSize_one]; split <;> omega
    have r1 := r.grow g1
    have k := r1.push { cls := .type "range_iterator", data := .fields #[rawInt lo, rawInt (Builtin.Range.rangeSize lo hi 1), rawInt 1] }
    exact hX _ _ (for_range (s₀ := { s with heap := hh1, toks := tk1 }) (lo := lo) (n := (hi - lo).toNat) ok st hb hm k.1 (get?_size_none _) r1.h0_none k.2.1 k.2.2 (by
        show Heap.get? _ _ = _
        rw [Heap.get?_push_size _ rfl, e]) (fin g1))
  · refine wpAny_For (hsrc _ _ _ _ _ _ _ _ h1 r fun y α1 hh1 tk1 g1 v1 => wpAny_gen fun X hX => ?_) hs
    obtain ⟨hi, rfl⟩ := v1.inv_ref
    have r1 := r.grow g1
    obtain ⟨is, n1, g1', v1', l1⟩ := r1.list e1
    have k := r1.push { cls := .type "list_iterator", data := .fields #[.ref (α1 i), .int 0 0] }
    exact wpAny_pyIter_list (items := is.toArray) ⟨_, g1', rfl, _, rfl⟩ (hX _ _ (for_list (s₀ := { s with heap := hh1, toks := tk1 }) ok st hb hi hm k.1 (get?_size_none _) r1.h0_none k.2.1 k.2.2
        ⟨_, Heap.get?_push_size _ rfl, rfl, rfl⟩ (fin g1)))
end
end Inn
end
section
set_option maxRecDepth 10000
set_option linter.unusedVariables false
namespace Inn
open PySem
variable {prog : Program} {w : World}
mutual
def AV.closed (n : Nat) : AV → Bool
  | .ref i => decide (i < n)
  | .vals i => decide (i < n)
  | .tup vs => closedL n vs
  | _ => true
def closedL (n : Nat) : List AV → Bool
  | [] => true
  | v :: vs => v.closed n && closedL n vs
end
noncomputable def closedK (n : Nat) : List (Int × AV) → Bool
  | [] => true
  | kv :: r => kv.2.closed n && closedK n r
noncomputable def AO.closed (n : Nat) : AO → Bool
  | .list vs => closedL n vs
  | .dict kvs => closedK n kvs
theorem VR.restrict {h α α' n n' m} {v : AV} {x : Value} (r : VR h α n v x) (hc : v.closed m = true) (ha : ∀ i, i < m → α' i = α i) (hn : m ≤ n') : VR h α' n' v x :=
  VR.rec (motive_1 := fun v x _ => v.closed m = true → VR h α' n' v x) (motive_2 := fun vs xs _ => closedL m vs = true → VRs h α' n' vs xs) (fun _ => .none) (fun b _ => .bool b) (fun i t _ => .int i t) (fun e _ r hc => .tup e (r hc))
    (fun e _ => .rng e) (fun _ e hc => .vals (Nat.lt_of_lt_of_le (of_decide_eq_true hc) hn) (ha _ (of_decide_eq_true hc) ▸ e)) (fun _ hc => ha _ (of_decide_eq_true hc) ▸ .ref (Nat.lt_of_lt_of_le (of_decide_eq_true hc) hn)) (fun _ => .nil)
    (fun _ _ a b hc => .cons (a (Bool.and_eq_true_iff.mp hc).1) (b (Bool.and_eq_true_iff.mp hc).2)) r hc
theorem VRs.restrict {h α α' n n' m} {vs : List AV} {xs : List Value} (r : VRs h α n vs xs) (hc : closedL m vs = true) (ha : ∀ i, i < m → α' i = α i) (hn : m ≤ n') : VRs h α' n' vs xs := by
  induction vs generalizing xs with
  | nil => cases r.nil_inv; exact .nil
  | cons v vs ih =>
    obtain ⟨x, ys, rfl, a, r⟩ := r.cons_inv
    have hc := Bool.and_eq_true_iff.mp hc
    exact .cons (a.restrict hc.1 ha hn) (ih r hc.2)
theorem KR.restrict {h α α' n n' m} (ha : ∀ i, i < m → α' i = α i) (hn : m ≤ n') {vs xs} (r : KR h α n vs xs) (hc : closedK m vs = true) : KR h α' n' vs xs := by
  induction r with
  | nil => exact .nil
  | cons a _ ih =>
    have hc := Bool.and_eq_true_iff.mp hc
    exact .cons (a.restrict hc.1 ha hn) (ih hc.2)
theorem OR.restrict {h α α' n n' m} {o : AO} {a : Addr} (r : OR prog w h α n o a) (hc : o.closed m = true) (ha : ∀ i, i < m → α' i = α i) (hn : m ≤ n') : OR prog w h α' n' o a := by
  cases r with
  | list e r l => exact .list e (r.restrict hc ha hn) l
  | dict e r l l' => exact .dict e (r.restrict ha hn hc) l l'
noncomputable def exportV (σ : Store) (v : AV) (σ' : Store) : Option (AV × Store) :=
  if v.closed σ.length then some (v, σ) else
  match v with
  | .ref i => (match σ'[i]? with
    | some o => if o.closed σ.length then some (.ref σ.length, σ ++ [o]) else none
    | none => none)
  | _ => none
noncomputable def emp : AEnv := fun _ => none
noncomputable def bindE : List (Str × AV) → AEnv → AEnv
  | [], ρ => ρ
  | (n, v) :: r, ρ => bindE r (upd ρ n v)
abbrev FnX := Store → AV → Store → Option (AV × Store)
open Classical in
noncomputable def aFnX (X : FnX) (params : List Str) (m : Nat → AS) (args : List AV) (σ : Store) : Option (AV × Store) :=
  if args.length = params.length then
    (m σ.length (bindE (params.zip args) emp) σ).bind fun p =>
      if p.2.2.take σ.length = σ then X σ (match p.1 with | .ret v => v | .next => .none) p.2.2 else none
  else none
noncomputable abbrev aFn := aFnX exportV
noncomputable def Lvl (k : Nat) (A : Around) : Prop := A.handled = none ∧ A.depth + k < recursionLimit ∧ A.units + 100 * (k + 1) < cLine
theorem Lvl.deeper {k : Nat} {A : Around} (h : Lvl (k + 1) A) (env : Env) : Lvl k (A.deeper env) := by
  obtain ⟨h1, h2, h3⟩ := h
  refine ⟨h1, ?_, ?_⟩
  · show A.depth + 1 + k < _; exact ar_28 h2
  · show A.units + 3 + 100 * (k + 1) < _; exact ar_29 h3
theorem Lvl.mono {k j : Nat} {A : Around} (h : Lvl k A) (hj : j ≤ k) : Lvl j A := by
  obtain ⟨h1, h2, h3⟩ := h
  have : 100 * (j + 1) ≤ 100 * (k + 1) := Nat.mul_le_mul_left _ (by exact Nat.add_le_add_right hj 1)
  exact ⟨h1, by exact ar_31 h2 hj, by exact ar_32 h3 hj⟩
structure SR (prog : Program) (w : World) (α : Nat → Addr) (σ : Store) (h : Heap) : Prop where
  objs : ∀ i o, σ[i]? = some o → OR prog w h α σ.length o (α i)
  inj : ∀ i j, i < σ.length → j < σ.length → α i = α j → i = j
theorem R.sr {c α ρ σ h} (r : R prog w c α ρ σ h) : SR prog w α σ h := ⟨r.objs, r.inj⟩
abbrev FnM := List AV → Store → Option (AV × Store)
noncomputable def FnOk (prog : Program) (w : World) (G : Heap → Prop) (k : Nat) (f : Addr) (F : FnM) : Prop :=
  ∀ (A : Around) (s : Shared) (args : List AV) (xs : List Value) (σ : Store) (α : Nat → Addr) (v : AV) (σ' : Store) (Q : Value → Shared → Prop) (E : Value → Shared → Prop),
    Lvl k A → G s.heap → SR prog w α σ s.heap → VRs s.heap α σ.length args xs → F args σ = some (v, σ') →
    (∀ x α' h' tk', Grow prog w s.heap α σ h' α' σ' → VR h' α' σ'.length v x → Q x { s with heap := h', toks := tk' }) → wpAny (model prog w) A (call (.ref f) xs) Q E s
noncomputable def EnvR (h : Heap) (α : Nat → Addr) (n : Nat) (ρ : AEnv) (K : Str → Prop) (m : Str → Option Value) : Prop := ∀ x v, ρ x = some v → K x → ∃ y, m x = some y ∧ VR h α n v y
theorem EnvR.upd {h α n ρ K m p v x} {m' : Str → Option Value} (e : EnvR h α n ρ K m) (hv : VR h α n v x) (h1 : K p → m' p = some x) (h2 : ∀ z, z ≠ p → m' z = m z) : EnvR h α n (upd ρ p v) K m' := by
  intro z u hz hk
  by_cases hzp : z = p
  · subst hzp
    have hz : some v = some u := (if_pos rfl).symm.trans hz
    exact ⟨x, h1 hk, Option.some.inj hz ▸ hv⟩
  · have hz : ρ z = some u := (if_neg hzp).symm.trans hz
    exact h2 z hzp ▸ e z u hz hk
theorem bind_env {h α n} (kindOf : Str → Option NameKind) (params : List Str) (args : List AV) (xs : List Value) (ρ : AEnv) (m cm : Str → Option Value) (hv : VRs h α n args xs)
    (h1 : EnvR h α n ρ (fun x => kindOf x = some .local) m) (h2 : EnvR h α n ρ (fun x => kindOf x = some .cell ∨ kindOf x = some .free) cm) :
    EnvR h α n (bindE (params.zip args) ρ) (fun x => kindOf x = some .local) (bindL kindOf (params.zip xs) m) ∧ EnvR h α n (bindE (params.zip args) ρ) (fun x => kindOf x = some .cell ∨ kindOf x = some .free) (bindC kindOf (params.zip xs) cm) := by
  induction params generalizing args xs ρ m cm with
  | nil => exact ⟨h1, h2⟩
  | cons p params ih =>
    cases args with
    | nil => cases hv.nil_inv; exact ⟨h1, h2⟩
    | cons v args =>
      obtain ⟨x, ys, rfl, hv, hr⟩ := hv.cons_inv
      refine ih args ys _ _ _ hr (h1.upd hv (fun hk => ?_) fun z hz => ?_) (h2.upd hv (fun hk => ?_) fun z hz => ?_)
      · simp [hk]
      · split
        · simp [hz]
        · rfl
      · have hnl : ¬ kindOf p = some .local := fun e => by rw [e] at hk; simp at hk
        simp [hnl]
      · split
        · rfl
        · simp [hz]
theorem bindE_dot : ∀ (l : List (Str × AV)) (ρ : AEnv), (∀ p ∈ l, p.1 ≠ ".0") → ρ ".0" = none → bindE l ρ ".0" = none
  | [], ρ, _, h => h
  | (n, v) :: r, ρ, hp, h => by
    refine bindE_dot r _ (fun p hm => hp p (.tail _ hm)) ?_
    have : ¬ ((".0" : Str) = n) := fun e => hp (n, v) (.head _) e.symm
    simp only [upd, this, if_false]; exact h
structure FnAt (f : Addr) (fd : FuncData) (h : Heap) : Prop where
  fn : ∃ o, h.get? f = some o ∧ o.data = .func fd
  lim : h.NoLimit
  code : h.CodeRec fd.code fd.qualname
theorem Heap.get?_ge {h : Heap} {a : Addr} (ha : h.objs.size ≤ a) : h.get? a = none := by
  cases e : h.get? a with
  | none => rfl
  | some o => exact absurd (Heap.lt_size e) (Nat.not_lt.mpr ha)
noncomputable def Exp (prog : Program) (w : World) (X : FnX) : Prop := ∀ ⦃c : Cx⦄ ⦃α α2 : Nat → Addr⦄ ⦃ρ : AEnv⦄ ⦃σ σ1 : Store⦄ ⦃h2 : Heap⦄ ⦃u : AV⦄ ⦃x' : Value⦄ ⦃v : AV⦄ ⦃σ' : Store⦄, c.n₀ = σ.length → R prog w c α2 ρ σ1 h2 → (∀ i, i < σ.length → α2 i = α i) →
  VR h2 α2 σ1.length u x' → X σ u σ1 = some (v, σ') → ∃ α', Grow prog w c.h₀ α σ h2 α' σ' ∧ VR h2 α' σ'.length v x'
theorem exp_V : Exp prog w exportV := by
  intro c α α2 ρ σ σ1 h2 u x' v σ' hn r2 ag hvr hm
  unfold exportV at hm
  split at hm
  · rename_i hcl
    cases hm
    refine ⟨α2, ⟨r2.keep, ⟨[], (List.append_nil _).symm⟩, ag, fun i o hi e => ?_, fun i hi hj => absurd hi (Nat.not_le.mpr hj), fun i j hi hj => absurd hi (Nat.not_le.mpr hj)⟩, hvr.restrict hcl (fun _ _ => rfl) (Nat.le_refl _)⟩
    exact nos ((List.getElem?_eq_none hi).symm.trans e)
  · rename_i hncl
    cases u with
    | ref i =>
      dsimp only at hm
      cases eo : σ1[i]? with
      | none => rw [eo] at hm; exact nos hm
      | some o =>
        rw [eo] at hm
        have hm := ite_some hm
        have hi1 : i < σ1.length := (List.getElem?_eq_some_iff.mp eo).1
        have hin : σ.length ≤ i := Nat.not_lt.mp fun h => hncl (decide_eq_true h)
        obtain ⟨_, rfl⟩ := hvr.inv_ref
        have hag : ∀ j, j < σ.length → (fun j => if j = σ.length then α2 i else α j) j = α2 j := fun j hj => (if_neg (Nat.ne_of_lt hj)).trans (ag j hj).symm
        obtain ⟨rfl, rfl⟩ := Prod.mk.inj (Option.some.inj hm.2)
        refine ⟨fun j => if j = σ.length then α2 i else α j, Grow.one r2.keep (r2.own i (hn ▸ hin) hi1) ((r2.objs i o eo).restrict hm.1 hag (Nat.le_succ _)), ?_⟩
        have := VR.ref (h := h2) (α := fun j => if j = σ.length then α2 i else α j) (n := (σ ++ [o]).length) (i := σ.length) (by simp)
        rwa [if_pos rfl] at this
    | _ => exact nos hm
set_option tactic.hygienic true in
theorem fn_ok {X : FnX} {G : Heap → Prop} {k : Nat} {f : Addr} {fd : FuncData} {body : List Stmt} {params : List Str} {m : Nat → AS} (hX : Exp prog w X)
    (hG : ∀ h h', HK h h' → G h → G h') (hf : ∀ h, G h → FnAt f fd h) (hbody : fd.body = .stmts body) (hclo : fd.closure = [])
    (hbind : ∀ xs : List Value, xs.length = params.length → bindArgs fd ⟨xs, []⟩ = pure (params.zip xs))
    (hkind : ∀ p ∈ params, p ≠ ".0" ∧ (fd.scope.names.lookup p = some .local ∨ fd.scope.names.lookup p = some .cell))
    (hcell : ∀ n x, fd.scope.names.lookup x = some .cell → ((cellsFrom n fd.scope.names []).lookup x).isSome = true)
    (hco : fd.scope.isCoroutine = false) (hgen : fd.scope.isGenerator = false) (hk : fd.scope.kind = .function)
    (hb : ∀ A L h₀ n₀, Lvl k A → G h₀ → Ok ⟨A, callEnvC fd L f, h₀, n₀⟩ → SimS prog w ⟨A, callEnvC fd L f, h₀, n₀⟩ (execs body (callEnvC fd L f)) (m n₀)) :
    FnOk prog w G (k + 1) f (aFnX X params m) := by
  intro A s args xs σ α v σ' Q E hl hg sr hv hm q
  obtain ⟨hlen, hm⟩ := ite_some hm
  obtain ⟨⟨fl, ρ1, σ1⟩, h1, hm⟩ := bind_some' hm
  obtain ⟨htake, hm⟩ := ite_some hm
  obtain ⟨⟨o, ho, hd⟩, hlim, hcode⟩ := hf _ hg
  refine wpAny_call (codeAny_call_cells (hroom := by have := hl.2.1; exact Nat.lt_of_add_right_lt this) ho hd hlim hcode hbody (hbind xs (hv.length.symm.trans hlen)) hclo (fun x hx => (hkind _ (List.of_mem_zip hx).1).2.elim .inl fun e => .inr ⟨e, hcell _ _ e⟩) (fun s₁ x => wpAny_gen fun Y hY => ?_) hco hgen hk)
  obtain ⟨ic, cell, apart, above⟩ := x
  obtain ⟨h₁, tk₁, rfl⟩ := ic.same
  have ok : Ok ⟨A.deeper (callEnvC fd s.heap.objs.size f), callEnvC fd s.heap.objs.size f, s.heap, σ.length⟩ :=
    ⟨hk, Heap.get?_ge (Nat.le_refl _), fun x a hx => Heap.get?_ge (Nat.le_of_lt (above x a (mem_of_lookup hx))), fun x y a hx hy => name_of_addr apart (mem_of_lookup hx) (mem_of_lookup hy), hl.1⟩
  have u : Up s.heap α σ.length h₁ α σ.length := ⟨Nat.le_refl _, fun _ _ => rfl, HK.vk ic.keep⟩
  have be := bind_env (h := h₁) (α := α) (n := σ.length) (callEnvC fd s.heap.objs.size f).kindOf params args xs emp (fun _ => none) (fun _ => none) (hv.up u) (fun x v hx => nos hx) (fun x v hx => nos hx)
  have r : R prog w ⟨A.deeper (callEnvC fd s.heap.objs.size f), callEnvC fd s.heap.objs.size f, s.heap, σ.length⟩ α (bindE (params.zip args) emp) σ h₁ :=
    ⟨ic.keep, ⟨_, _, ic.ns, cell, be.1, be.2⟩, bindE_dot _ _ (fun p hp => (hkind _ (List.of_mem_zip hp).1).1) rfl, fun i o e => (sr.objs i o e).up u fun ob ho => ic.keep _ _ ho, sr.inj, fun i h1 h2 => absurd h1 (Nat.not_le.mpr h2),
      fun i hi e => (sr.objs i σ[i] (List.getElem?_eq_getElem hi)).some.elim fun ob hob => absurd (e ▸ Heap.lt_size hob.1) (Nat.lt_irrefl _)⟩
  refine hb (A.deeper (callEnvC fd s.heap.objs.size f)) s.heap.objs.size s.heap σ.length (hl.deeper _) hg ok _ _ _ _ _ _ { s with heap := h₁, toks := tk₁ } _ _ h1 r fun x α2 h2 tk2 r2 u2 k2 v2 => hY _ _ ?_
  have fin : ∀ (u : AV) (x' : Value), VR h2 α2 σ1.length u x' → X σ u σ1 = some (v, σ') → Q x' { s with heap := h2, toks := tk2 } := fun u x' hvr hm => (hX rfl r2 u2.agree hvr hm).elim fun α' h => q x' α' h2 tk2 h.1 h.2
  cases v2 with
  | next => exact fin _ _ .none hm
  | ret hv => exact fin _ _ hv hm
end Inn
end
section
set_option maxRecDepth 10000
set_option linter.unusedVariables false
namespace Inn
open PySem
variable {prog : Program} {w : World}
structure CxG (G : Heap → Prop) (k : Nat) (c : Cx) : Prop where
  ok : Ok c
  gl : c.env.globals = mainGlobals
  bl : c.env.builtins = builtinsNs
  lv : Lvl k c.A
  g : G c.h₀
  mono : ∀ h h', HK h h' → G h → G h'
  cells : ∀ x, (c.env.kindOf x = some .cell ∨ c.env.kindOf x = some .free) → (c.env.cells.lookup x).isSome = true
noncomputable def Gl (G : Heap → Prop) (x : Str) (v : Value) : Prop := ∀ h, G h → ∃ mg, h.Ns mainGlobals mg ∧ (mg x = some v ∨ (mg x = none ∧ ∃ mb, h.Ns builtinsNs mb ∧ mb x = some v))
section
variable {c : Cx} {G : Heap → Prop} {k : Nat}
theorem CxG.here {α ρ σ h} (cx : CxG G k c) (r : R prog w c α ρ σ h) : G h := cx.mono _ _ r.keep cx.g
noncomputable def isVar : Option NameKind → Bool
  | some .local | some .cell | some .free => true
  | _ => false
theorem isVar_cases {o : Option NameKind} (h : isVar o = true) : o = some .local ∨ o = some .cell ∨ o = some .free := by
  cases o with
  | none => cases h
  | some kd => cases kd <;> first | exact .inl rfl | exact .inr (.inl rfl) | exact .inr (.inr rfl) | cases h
theorem var_not_local {o : Option NameKind} (h : isVar o = true ∧ o ≠ some .local) : o = some .cell ∨ o = some .free := (isVar_cases h.1).resolve_left h.2
noncomputable def okName (x : Str) : Bool := !(x == ("__debug__" : Str)) && !(x == ("__classdict__" : Str))
theorem sim_name {x : Str} {pos : Pos} (cx : CxG G k c) (hv : isVar (c.env.kindOf x) = true) (hn : okName x = true) : Sim prog w c (eval (.Name x pos) c.env) (aName x) := by
  simp only [okName, Bool.and_eq_true, Bool.not_eq_true'] at hn
  cases hk : c.env.kindOf x with
  | none => rw [hk] at hv; cases hv
  | some kd =>
    cases kd with
    | «local» => exact sim_local cx.ok.fn hk hn.1
    | cell => exact sim_cell cx.ok.fn hk (cx.cells x (.inl hk)) hn.1
    | free => exact sim_free cx.ok.fn hk (cx.cells x (.inr hk)) hn.1 hn.2
    | _ => rw [hk] at hv; cases hv
noncomputable def isSto : Option NameKind → Bool
  | some .local | some .cell => true
  | _ => false
theorem storable {x : Str} (cx : CxG G k c) (hv : isSto (c.env.kindOf x) = true) (h0 : (x == (".0" : Str)) = false) : Storable c x := by
  refine ⟨by simpa using h0, ?_⟩
  cases hk : c.env.kindOf x with
  | none => rw [hk] at hv; cases hv
  | some kd =>
    cases kd with
    | «local» => exact .inl rfl
    | cell => exact .inr ⟨rfl, cx.cells x (.inl hk)⟩
    | _ => rw [hk] at hv; cases hv
theorem load_gl {α ρ σ} {s : Shared} {x : Str} {pos : Pos} {v : Value} {Q : Value → Shared → Prop} {E} (cx : CxG G k c) (hx : c.env.kindOf x = some .globalImplicit) (hd : (x == ("__debug__" : Str)) = false) (g : Gl G x v)
    (r : R prog w c α ρ σ s.heap) (q : Q v s) : wpAny (model prog w) c.A (eval (.Name x pos) c.env) Q E s := by
  refine Calls.Name_function_global cx.ok.fn hx ?_ hd
  obtain ⟨mg, h1, h2⟩ := g _ (cx.here r)
  rw [← cx.gl] at h1
  rcases h2 with h2 | ⟨h2, mb, h3, h4⟩
  · exact Calls.loadGlobal_global h1 h2 q
  · rw [← cx.bl] at h3
    exact Calls.loadGlobal_builtin h1 h2 h3 h4 q
inductive Callee (G : Heap → Prop) : Value → Prop
  | builtin (id : String) : Callee G (.builtin id)
  | type (T : String) : Callee G (.type T)
  | fn {f : Addr} {o : Obj} {fd : FuncData} : (∀ h, G h → h.get? f = some o) → o.data = .func fd → Callee G (.ref f)
theorem callWith_any {A : Around} {E : Value → Shared → Prop} {s : Shared} {fv : Value} {pos : Pos} {args : List (Bool × Sem Value)} {Q : Value → Shared → Prop} (hc : Callee G fv) (hplain : args.any (·.1) = false)
    (h : wpAny (model prog w) A (evalArgs fv true args []) (fun a s₁ => G s₁.heap ∧ wpAny (model prog w) A (call fv a.pos a.kw) Q E s₁) E s) : wpAny (model prog w) A (callWith pos fv [] args []) Q E s := by
  cases hc with
  | builtin id => exact Calls.callWith_builtin hplain (wpAny_mono h (fun a s₁ h => h.2) fun _ _ e => e)
  | type T => exact PySem.callWith_type hplain (wpAny_mono h (fun a s₁ h => h.2) fun _ _ e => e)
  | fn hf hd => exact Calls.callWith_function (wpAny_mono h (fun a s₁ h => ⟨⟨hf _ h.1, hd⟩, h.2⟩) fun _ _ e => e)
noncomputable def OpN (prog : Program) (w : World) (c : Cx) (t : List Value → Sem Value) (F : FnM) : Prop :=
  ∀ (vs : List AV) (xs : List Value) (α : Nat → Addr) (ρ : AEnv) (σ : Store) (v : AV) (σ' : Store) (s : Shared) (Q : Value → Shared → Prop) (E : Value → Shared → Prop), F vs σ = some (v, σ') → R prog w c α ρ σ s.heap →
    VRs s.heap α σ.length vs xs → (∀ z α' h' tk', Grow prog w s.heap α σ h' α' σ' → VR h' α' σ'.length v z → Q z { s with heap := h', toks := tk' }) → wpAny (model prog w) c.A (t xs) Q E s
noncomputable def aCall (F : FnM) (ms : List (AM AV)) : AM AV := abind (aArgs ms) fun vs => fun _ σ => F vs σ
theorem sim_call {x : Str} {np pos : Pos} {e : Expr} {es : List Expr} {m : AM AV} {ms : List (AM AV)} {fv : Value} {F : FnM} (cx : CxG G k c) (hx : c.env.kindOf x = some .globalImplicit) (hd : (x == ("__debug__" : Str)) = false)
    (g : Gl G x fv) (hc : Callee G fv) (op : OpN prog w c (fun xs => call fv xs) F) (ha : SimA prog w c (e :: es) (m :: ms)) (he : starEach (e :: es) c.env = (false, eval e c.env) :: starEach es c.env := by rfl) (hp : ∀ pos, (backTo pos (starEach es c.env)).any (·.1) = false := by intro _; rfl) :
    Sim prog w c (eval (.Call (.Name x np) (e :: es) [] pos) c.env) (aCall F (m :: ms)) := by
  intro ρ σ v σ' α s Q E hm r q
  obtain ⟨vs, σ1, h1, hm⟩ := abind_some hm
  refine wpAny_Call_ofName (load_gl cx hx hd g r ?_)
  show wpAny _ _ (callWith pos fv [] (backTo pos (starEach (e :: es) c.env)) []) _ _ _
  have hplain : (backTo pos (starEach (e :: es) c.env)).any (·.1) = false := by
    rw [he]
    show ((false : Bool) || (backTo pos (starEach es c.env)).any (·.1)) = false
    rw [hp]; rfl
  refine callWith_any hc hplain ?_
  have hb : backTo pos (starEach (e :: es) c.env) = (false, eval e c.env) :: backTo pos (starEach es c.env) := by rw [he]; rfl
  have key := ha pos _ _ _ _ _ _ (fun xs s₁ => G s₁.heap ∧ wpAny (model prog w) c.A (call fv xs) Q E s₁) E h1 r fun xs α1 hh1 tk1 g1 v1 =>
    ⟨cx.here (r.grow g1), op _ _ _ _ _ _ _ { s with heap := hh1, toks := tk1 } _ _ hm (r.grow g1) v1 fun z α2 hh2 tk2 g2 v2 => q z α2 hh2 tk2 (g1.trans g2) v2⟩
  rw [hb] at key ⊢
  exact Calls.evalArgs_plain key
noncomputable def on1 (f : AV → Store → Option (AV × Store)) : FnM := fun vs σ => match vs with
  | [a] => f a σ
  | _ => none
theorem op_1 {t : List Value → Sem Value} {f} (h : ∀ (a : AV) (x : Value) α ρ σ v σ' s (Q : Value → Shared → Prop) E, f a σ = some (v, σ') → R prog w c α ρ σ s.heap → VR s.heap α σ.length a x → KA VR prog w s α σ Q v σ' → wpAny (model prog w) c.A (t [x]) Q E s) : OpN prog w c t (on1 f) := by
  intro vs xs α ρ σ v σ' s Q E hm r hv q
  cases vs with
  | nil => exact nos hm
  | cons a vs =>
    cases vs with
    | nil =>
      obtain ⟨x, ys, rfl, hx, hv⟩ := hv.cons_inv
      cases hv.nil_inv
      exact h a x α ρ σ v σ' s Q E hm r hx q
    | cons _ _ => exact nos hm
noncomputable def onO {β : Type} (f : AO → Option β) (a : AV) (σ : Store) : Option β := match a with
  | .ref i => (σ[i]?).bind f
  | _ => none
theorem onO_inv {β : Type} {f : AO → Option β} {a σ r} {C : Prop} (h : onO f a σ = some r) (k : ∀ i o, a = .ref i → σ[i]? = some o → f o = some r → C) : C := by
  cases a with
  | ref i => obtain ⟨o, e, h⟩ := bind_some' h; exact k i o rfl e h
  | _ => exact nos h
theorem op_O {t : List Value → Sem Value} {f : Store → AO → Option (AV × Store)} (h : ∀ i o α ρ σ v σ' s (Q : Value → Shared → Prop) E, σ[i]? = some o → f σ o = some (v, σ') → R prog w c α ρ σ s.heap → KA VR prog w s α σ Q v σ' → wpAny (model prog w) c.A (t [.ref (α i)]) Q E s) : OpN prog w c t (on1 fun a σ => onO (f σ) a σ) := by
  refine op_1 fun a x α ρ σ v σ' s Q E hm r hv q => onO_inv hm fun i o ea eo hf => ?_
  obtain ⟨_, rfl⟩ := VR.inv_ref (ea ▸ hv)
  exact h i o α ρ σ v σ' s Q E eo hf r q
noncomputable def bLen : FnM := on1 fun a σ => onO (fun o => match o with
  | .list vs => some (.int vs.length, σ)
  | .dict kvs => some (.int kvs.length, σ)) a σ
set_option tactic.hygienic true in
theorem op_len : OpN prog w c (fun xs => call (.builtin "len") xs) bLen := by
  refine op_O fun i o α ρ σ v σ' s Q E e1 hm r q => ?_
  cases o with
  | list vs =>
    replace q := tr2 hm q
    obtain ⟨is, n1, g1, v1, l1⟩ := r.list e1
    refine Calls.call_len_list ⟨_, g1, rfl, _, rfl⟩ (by simp; exact ar_34 l1) (q _ α s.heap _ (Grow.refl ..) ?_)
    rw [v1.length]; exact .int _ _
  | dict kvs =>
    replace q := tr2 hm q
    obtain ⟨xs, hd, hk, hne, hl⟩ := r.dict e1
    refine call_len_dict (by simpa using hne) hd (by omega) (q _ α s.heap _ (Grow.refl ..) ?_)
    rw [hk.length]; exact .int _ _
noncomputable def intsOf : List AV → Option (List Int)
  | [] => some []
  | .int i :: r => (intsOf r).map (i :: ·)
  | _ => none
theorem intsOf_length {vs : List AV} {ns : List Int} (e : intsOf vs = some ns) : vs.length = ns.length := by
  induction vs generalizing ns with
  | nil => cases e; rfl
  | cons v vs ih =>
    cases v with
    | int i => obtain ⟨ns, e1, rfl⟩ := map_some' e; exact congrArg Nat.succ (ih e1)
    | _ => exact nos e
noncomputable def bMax : FnM := fun vs σ => match vs with
  | [a, b] => ii (fun a b => some (.int (if b > a then b else a), σ)) a b
  | _ => none
theorem op_max (lv : Lvl k c.A) : OpN prog w c (fun xs => call (.builtin "max") xs) bMax := by
  intro vs xs α ρ σ v σ' s Q E hm r hv q
  cases vs with
  | nil => exact nos hm
  | cons a vs =>
    cases vs with
    | nil => exact nos hm
    | cons b vs =>
      cases vs with
      | cons _ _ => exact nos hm
      | nil =>
        obtain ⟨i, j, ea, eb, hm⟩ := ii_inv hm
        replace q := tr2 hm q
        obtain ⟨x, ys, rfl, hx, hv⟩ := hv.cons_inv
        obtain ⟨y, ys, rfl, hy, hv⟩ := hv.cons_inv
        cases hv.nil_inv
        obtain ⟨t, rfl⟩ := VR.inv_int (ea ▸ hx)
        obtain ⟨u, rfl⟩ := VR.inv_int (eb ▸ hy)
        refine max_two_ints lv.1 fun h' tk k => q _ α h' tk (Grow.same k α σ) ?_
        split <;> exact .int _ _
noncomputable def bInt : FnM := on1 fun a σ => match a with
  | .bool b => some (.int (if b then 1 else 0), σ)
  | _ => none
theorem op_int : OpN prog w c (fun xs => call (.type "int") xs) bInt := by
  refine op_1 fun a x α ρ σ v σ' s Q E hm r hv q => ?_
  cases a with
  | bool b =>
    replace q := tr2 hm q
    cases hv.inv_bool
    exact call_int_bool (q _ α s.heap _ (Grow.refl ..) (.int _ _))
  | _ => exact nos hm
noncomputable def bRange : FnM := on1 fun a σ => match a with
  | .int b => some (.rng 0 b, σ)
  | _ => none
theorem op_range : OpN prog w c (fun xs => call (.type "range") xs) bRange := by
  refine op_1 fun a x α ρ σ v σ' s Q E hm r hv q => ?_
  cases a with
  | int b =>
    replace q := tr2 hm q
    obtain ⟨t, rfl⟩ := hv.inv_int
    exact call_range_1 (q _ α _ _ (Grow.same (HK.push _ _) α σ) (.rng (IsRange.new ..)))
  | _ => exact nos hm
end
end Inn
end
section
set_option maxRecDepth 10000
set_option linter.unusedVariables false
namespace Inn
open PySem
variable {prog : Program} {w : World}
theorem rel_lookup {env : Env} : ∀ (names : List (Str × NameKind)) (x : Str),
    (names.map fun (n, k) => if (k == NameKind.free && env.scope.kind == .function && env.kindOf n == some .cell) then (n, NameKind.cell) else (n, k)).lookup x =
      (names.lookup x).map fun k => if (k == NameKind.free && env.scope.kind == .function && env.kindOf x == some .cell) then NameKind.cell else k
  | [], x => rfl
  | (n, k) :: r, x => by
    have ih := rel_lookup (env := env) r x
    by_cases hx : x = n
    · subst hx
      simp only [List.map_cons, List.lookup_cons, beq_self_eq_true, Option.map_some]
      split <;> simp_all
    · have hb : (x == n) = false := by simpa using hx
      simp only [List.map_cons, List.lookup_cons, hb]
      split <;> simp only [List.lookup_cons, hb] <;> exact ih
theorem closure_ok {scope : Scope} {env : Env} (h : ∀ p ∈ scope.names, p.2 = .free → (env.cells.lookup p.1).isSome = true) :
    ∃ cl, closureFor scope env = pure cl ∧ (∀ y a, cl.lookup y = some a → env.cells.lookup y = some a) ∧ (∀ p ∈ scope.names, p.2 = .free → (cl.lookup p.1).isSome = true) := by
  have key : ∀ (names : List (Str × NameKind)) (acc : List (Str × Addr)), (∀ p ∈ names, p.2 = .free → (env.cells.lookup p.1).isSome = true) → (∀ y a, acc.lookup y = some a → env.cells.lookup y = some a) →
      ∃ cl, (forIn names acc fun (p : Str × NameKind) (cs : List (Str × Addr)) => (if (p.2 == NameKind.free) = true then do
          let a ← cellOf env p.1
          pure (ForInStep.yield ((p.1, a) :: cs)) else pure (ForInStep.yield cs) : Sem (ForInStep (List (Str × Addr))))) = pure cl ∧ (∀ y a, cl.lookup y = some a → env.cells.lookup y = some a) ∧
        (∀ p ∈ names, p.2 = .free → (cl.lookup p.1).isSome = true) ∧ (∀ y, (acc.lookup y).isSome = true → (cl.lookup y).isSome = true) := by
    intro names
    induction names with
    | nil => intro acc _ ha; exact ⟨acc, rfl, ha, fun p hp => (nomatch hp), fun _ h => h⟩
    | cons p r ih =>
      intro acc hp ha
      rw [List.forIn_cons]
      by_cases hk : (p.2 == NameKind.free) = true
      · obtain ⟨a, ea⟩ := Option.isSome_iff_exists.mp (hp p (.head _) (by simpa using hk))
        obtain ⟨cl, e1, e2, e3, e4⟩ := ih ((p.1, a) :: acc) (fun q hq => hp q (.tail _ hq)) (fun y b hy => by
          by_cases hyp : y = p.1
          · subst hyp; simp at hy; subst hy; exact ea
          · have : (y == p.1) = false := by simpa using hyp
            rw [List.lookup_cons, this] at hy; exact ha y b hy)
        refine ⟨cl, ?_, e2, fun q hq hf => ?_, fun y hy => e4 y ?_⟩
        · rw [if_pos hk]
          unfold cellOf
          rw [ea]
          exact e1
        · rcases List.mem_cons.mp hq with rfl | hq
          · exact e4 _ (by simp)
          · exact e3 q hq hf
        · rw [List.lookup_cons]
          split
          · rfl
          · exact hy
      · obtain ⟨cl, e1, e2, e3, e4⟩ := ih acc (fun q hq => hp q (.tail _ hq)) ha
        refine ⟨cl, ?_, e2, fun q hq hf => ?_, e4⟩
        · rw [if_neg hk]; exact e1
        · rcases List.mem_cons.mp hq with rfl | hq
          · exact absurd (by simpa using hf) hk
          · exact e3 q hq hf
  obtain ⟨cl, e1, e2, e3, _⟩ := key scope.names [] h (fun y a hy => by simp at hy)
  refine ⟨cl, ?_, e2, e3⟩
  show ((forIn scope.names ([] : List (Str × Addr)) fun (p : Str × NameKind) (cs : List (Str × Addr)) => (if (p.2 == NameKind.free) = true then do
          let a ← cellOf env p.1
          pure (ForInStep.yield ((p.1, a) :: cs)) else pure (ForInStep.yield cs) : Sem (ForInStep (List (Str × Addr))))) >>= fun cs => pure cs) = pure cl
  rw [e1]
  rfl
noncomputable def SimT (prog : Program) (w : World) (c : Cx) (ifs : List Expr) (ms : List (AM Bool)) : Prop :=
  SimB prog w c (forIn ifs true fun e r => if r = true then do let ok ← isTrue e c.env (eval e c.env); pure (ForInStep.yield ok) else pure (ForInStep.yield r)) (bAnd ms)
theorem simT_nil {c : Cx} : SimT prog w c [] [] := by
  intro ρ σ v σ' α s Q E hm r q
  (first | replace q := tr2 hm q | cases hm)
  exact wpAny_pure (q _ α s.heap s.toks (Grow.refl ..) rfl)
theorem simT_one {c : Cx} {e m} (h : SimB prog w c (isTrue e c.env (eval e c.env)) m) : SimT prog w c [e] [m] := by
  intro ρ σ v σ' α s Q E hm r q
  obtain ⟨a, σ1, h1, hm⟩ := abind_some hm
  have e2 : v = a ∧ σ' = σ1 := by cases a <;> cases hm <;> exact ⟨rfl, rfl⟩
  obtain ⟨rfl, rfl⟩ := e2
  rw [List.forIn_cons]
  refine wpAny_bind ?_
  simp only [if_true]
  exact wpAny_bind (h _ _ _ _ _ _ _ _ h1 r fun x α1 hh1 tk1 g1 v1 => wpAny_pure (wpAny_pure (q _ α1 hh1 tk1 g1 v1)))
noncomputable def itemsOf (v : AV) (σ : Store) : Option (List AV) := match v with
  | .rng lo hi => if rangeOk lo hi ∧ hi - lo ≤ 1000000 then some (rngL lo hi) else none
  | .ref i => (match σ[i]? with
    | some (.list vs) => some vs
    | some (.dict kvs) => some (kvs.map fun kv => .int kv.1)
    | none => none)
  | _ => none
noncomputable def compItems (x : Str) (t : AM Bool) (m : AM AV) (ρ : AEnv) (σ : Store) : List AV → Option (List AV)
  | [] => some []
  | v :: vs => (t (upd ρ x v) σ).bind fun p => if p.1 then (m (upd ρ x v) p.2).bind fun q => if q.1.closed σ.length then (compItems x t m ρ σ vs).map (q.1 :: ·) else none
    else compItems x t m ρ σ vs
noncomputable def aComp (x : Str) (src : AM AV) (t : AM Bool) (m : AM AV) : AM AV := abind src fun v => fun ρ σ => (itemsOf v σ).bind fun vs => (compItems x t m ρ σ vs).bind fun us => some (.ref σ.length, σ ++ [.list us])
abbrev subCx (c : Cx) (scope : Scope) (cl : List (Str × Addr)) (C : Addr) : Cx := ⟨c.A, compEnvC scope cl C c.env, c.h₀, c.n₀⟩
structure CompOk (c : Cx) (scope : Scope) (x : Str) : Prop where
  cell : ∀ y ∈ scope.names, y.2 ≠ .cell
  kind : scope.kind = .function
  hx : scope.names.lookup x = some .local
  x0 : x ≠ ".0"
  names : ∀ y ∈ scope.names, y.2 = .local → scope.names.lookup y.1 = some .local
  loc : ∀ y ∈ scope.names, y.2 = .local → y.1 = x ∨ y.1 = ".0"
  free : ∀ y ∈ scope.names, y.2 = .free → isVar (c.env.kindOf y.1) = true ∧ c.env.kindOf y.1 ≠ some .local
section
variable {c : Cx} {G : Heap → Prop} {k : Nat} {scope : Scope} {x : Str} {cl : List (Str × Addr)}
theorem sub_local {C : Addr} {y : Str} (co : CompOk c scope x) (h : (subCx c scope cl C).env.kindOf y = some .local) : y = x ∨ y = ".0" := by
  have h' : (relabel scope c.env).names.lookup y = some .local := h
  unfold relabel at h'
  rw [rel_lookup] at h'
  obtain ⟨kd, h1, h2⟩ := map_some' h'
  have : kd = .local := by split at h2 <;> first | exact h2 | cases h2
  subst this
  exact co.loc (y, .local) (mem_of_lookup h1) rfl
theorem sub_free {C : Addr} {y : Str} (co : CompOk c scope x) (h : (subCx c scope cl C).env.kindOf y = some .cell ∨ (subCx c scope cl C).env.kindOf y = some .free) : (y, NameKind.free) ∈ scope.names := by
  have h' : (relabel scope c.env).names.lookup y = some .cell ∨ (relabel scope c.env).names.lookup y = some .free := h
  unfold relabel at h'
  rw [rel_lookup] at h'
  have : ∃ kd, scope.names.lookup y = some kd ∧ (kd = .cell ∨ kd = .free) := by
    rcases h' with h' | h' <;> obtain ⟨kd, h1, h2⟩ := map_some' h' <;> refine ⟨kd, h1, ?_⟩ <;> split at h2
    · rename_i hc
      simp only [Bool.and_eq_true, beq_iff_eq] at hc
      exact .inr hc.1.1
    · exact .inl h2
    · cases h2
    · exact .inr h2
  obtain ⟨kd, h1, h2⟩ := this
  have hm := mem_of_lookup h1
  rcases h2 with rfl | rfl
  · exact absurd rfl (co.cell _ hm)
  · exact hm
theorem sub_cx {C : Addr} (cx : CxG G k c) (co : CompOk c scope x) (hC : c.h₀.get? C = none) (hA : ∀ y a, cl.lookup y = some a → c.env.cells.lookup y = some a) (hB : ∀ p ∈ scope.names, p.2 = .free → (cl.lookup p.1).isSome = true) :
    CxG G k (subCx c scope cl C) :=
  ⟨⟨co.kind, hC, fun y a hy => cx.ok.freshC y a (hA y a hy), fun y z a hy hz => cx.ok.apartC y z a (hA y a hy) (hA z a hz), cx.ok.hand⟩, cx.gl, cx.bl, cx.lv, cx.g, cx.mono, fun y hy => hB _ (sub_free co hy) rfl⟩
structure IterAt (h : Heap) (I : Addr) : Prop where
  ex : ∃ o vs T, h.get? I = some o ∧ o.data = .fields vs ∧ o.cls = .type T ∧ (T ≠ "tuple" ∧ T ≠ "range" ∧ T ≠ "dict_values")
theorem HK.off {h h' h'' : Heap} {a : Addr} (k : HK h h') (hn : h.get? a = none) (hs : ∀ b o, b ≠ a → h'.get? b = some o → h''.get? b = some o) : HK h h'' := fun b o e => hs b o (fun q => nos (((congrArg h.get? q).trans hn).symm.trans e)) (k b o e)
theorem upd_upd {ρ : AEnv} {x : Str} {v u : AV} : upd (upd ρ x v) x u = upd ρ x u := funext fun y => by
  unfold upd
  by_cases hy : y = x
  · rw [if_pos hy, if_pos hy]
  · rw [if_neg hy, if_neg hy, if_neg hy]
theorem R.setList {α ρ σ} {h h' : Heap} {D : Addr} {ys : Array Value} {ep : Nat} (ok : Ok c) (r : R prog w c α ρ σ h) (hD : h.get? D = some { cls := .type "list", data := .seq ys ep }) (hs : Heap.SameBut D h h') (hDC : D ≠ c.env.locals) (h0 : c.h₀.get? D = none) (ha : ∀ i, i < σ.length → α i ≠ D) :
    R prog w c α ρ σ h' ∧ Up h α σ.length h' α σ.length := by
  obtain ⟨m, cm, e1, e2, e3, e4⟩ := r.env
  have k := R.sameBut (a := D) ok r (fun b o hb e => hs.extBut b o hb e) h0 ha (fun o e => Option.some.inj (hD.symm.trans e) ▸ (fx_seq rfl rfl).1)
    ⟨m, cm, e1.sameBut hs (Ne.symm hDC), fun y a hy => (e2 y a hy).sameBut hs fun e => (e2 y a hy).elim fun ob ho => (fx_seq (ob := { cls := .type "list", data := .seq ys ep }) rfl rfl).2 _ (Option.some.inj (hD.symm.trans (e ▸ ho.1)) ▸ ho.2), e3, e4⟩ r.dot
  exact ⟨k.1, k.2.1⟩
inductive CI (prog : Program) (w : World) (c : Cx) (x : Str) (t : AM Bool) (m : AM AV) (α : Nat → Addr) (ρ : AEnv) (σ : Store) (s : Shared) (D : Addr) (St : Nat → Heap → Prop) (n : Nat) (vs us : List AV) (q : Nat) : Shared → Prop
  | mk (h' : Heap) (tk' : Nat) (ρ' : AEnv) (j : Nat) (ys : List Value) (ep : Nat) (us₀ us₁ : List AV) (f1 : q = n + 1 - j) (f2 : j ≤ n) (f3 : St j h') (f4 : HK s.heap h') (f5 : R prog w c α ρ' σ h') (f6 : ∀ v, upd ρ' x v = upd ρ x v)
    (f7 : h'.get? D = some { cls := .type "list", data := .seq ys.toArray ep }) (f8 : ys.length ≤ j) (f9 : us = us₀ ++ us₁) (f10 : VRs h' α σ.length us₀ ys) (f11 : compItems x t m ρ σ (vs.drop j) = some us₁) : CI prog w c x t m α ρ σ s D St n vs us q { s with heap := h', toks := tk' }
theorem comp_loop {elt iter : Expr} {px pos : Pos} {ifs : List Expr} {t : AM Bool} {m : AM AV} {I D : Addr} {fp : List Addr} {n : Nat} {P : Nat → Value → Prop} {St : Nat → Heap → Prop} {α : Nat → Addr} {ρ : AEnv} {σ : Store} {s s₂ : Shared} {vs us : List AV} {ts : List (AM Bool)} {RR : Result → Shared → Prop}
    (ok : Ok c) (hkx : c.env.kindOf x = some .local) (x0 : x ≠ ".0") (ht : SimT prog w c ifs ts) (htt : t = bAnd ts) (he : Sim prog w c (eval elt c.env) m) (none0 : ∀ a, s.heap.get? a = none → c.h₀.get? a = none) (live : ∀ i, i < σ.length → ∃ ob, s.heap.get? (α i) = some ob)
    (W : Walks prog w c.A I fp [I] n P St) (hI : s.heap.get? I = none) (hIf : ∀ i h, St i h → IterAt h I) (hP : ∀ j y, j < vs.length → P j y → ∃ v, vs[j]? = some v ∧ VR s.heap α σ.length v y) (hn : n = vs.length) (hn' : n ≤ 1000000)
    (hD0 : s.heap.get? D = none) (hC0 : s.heap.get? c.env.locals = none) (hDC : D ≠ c.env.locals) (hDf : D ∉ fp) (hCf : c.env.locals ∉ fp) (start : CI prog w c x t m α ρ σ s D St n vs us (n + 1) s₂)
    (fin : ∀ h' tk' m' ys ep, HK s.heap h' → h'.Ns c.env.locals m' → h'.get? D = some { cls := .type "list", data := .seq ys.toArray ep } → VRs h' α σ.length us ys → ys.length ≤ 1000000 → RR (.ok .next) { s with heap := h', toks := tk' }) :
    codeAny (model prog w) c.A (.compLoop (.ListComp elt [⟨.Name x px, iter, ifs, 0⟩] scope pos) 0 (.ref I) (.ref D) c.env) RR s₂ := by
  refine codeAny_compLoop_tests (CI prog w c x t m α ρ σ s D St n vs us) (fun q s' hI' => wpAny_gen fun X hX => ?_) (n + 1) start
  have hDI : D ≠ I := fun e => hDf (e ▸ W.sub I (List.mem_singleton.mpr rfl))
  induction hI' with
  | mk h' tk' ρ' j ys ep us₀ us₁ hq hj hst' hk' r' hu' hD' hyl hus hvr hm' =>
  obtain ⟨oI, vI, TI, gI, dI, cI, tI⟩ := (hIf _ _ hst').ex
  rcases Nat.lt_or_ge j n with hlt | hge
  · refine W.item j _ _ _ hlt hst' fun y h3 tk3 hPy hst3 hs3 => hX _ _ ?_
    obtain ⟨v, hv, hvy⟩ := hP j y (hn ▸ hlt) hPy
    have off3 : ∀ b ob, b ≠ I → h'.get? b = some ob → h3.get? b = some ob := fun b ob hb e => hs3 b ob (fun h => hb (List.mem_singleton.mp h)) e
    have k3 := r'.iter gI dI cI tI (none0 _ hI) off3
    have hk3 : HK s.heap h3 := hk'.off hI off3
    refine wpAny_assign_Name (store_local (s := { s with heap := h3, toks := tk3 }) ok k3.1 hkx x0 (hvy.up ⟨Nat.le_refl _, fun _ _ => rfl, hk3.vk⟩) fun h4 tk4 r4 u4 fk4 off4 => wpAny_gen fun Y hY => ?_)
    rw [hu' v] at r4
    have hk4 : HK s.heap h4 := hk3.off hC0 off4
    have hst4 : St (j + 1) h4 := W.frame _ _ _ hst3 fun b hb o e => off4 b o (fun hb' => hCf (hb' ▸ hb)) e
    have hD4 := off4 _ _ hDC (off3 _ _ hDI hD')
    have hvr4 : VRs h4 α σ.length us₀ ys := (hvr.up ⟨Nat.le_refl _, fun _ _ => rfl, k3.2⟩).up u4
    rw [List.drop_eq_getElem_cons (hn ▸ hlt), (List.getElem?_eq_some_iff.mp hv).2] at hm'
    obtain ⟨⟨b, σ5⟩, h5, hm5⟩ := bind_some' hm'
    rw [htt] at h5
    have hlq : n + 1 - (j + 1) < q := by exact ar_36 hq hj
    refine ht _ _ _ _ _ { s with heap := h4, toks := tk4 } _ _ h5 r4 fun b' α5 hh5 tk5 g5 v5 => ?_
    subst v5
    cases b with
    | false => exact hY _ _ (Exists.intro (n + 1 - (j + 1)) ⟨hlq, .mk hh5 tk5 _ (j + 1) ys ep us₀ us₁ rfl hlt (W.frame _ _ _ hst4 fun b _ o e => g5.keep b o e) (hk4.trans g5.keep) (r4.grow g5.forget) (fun u => upd_upd) (g5.keep _ _ hD4) (Nat.le_succ_of_le hyl) hus (hvr4.up ⟨Nat.le_refl _, fun _ _ => rfl, g5.keep.vk⟩) hm5⟩)
    | true =>
      obtain ⟨⟨u, σ6⟩, h6, hm6⟩ := bind_some' hm5
      obtain ⟨hcl, hm6⟩ := ite_some hm6
      obtain ⟨us₂, hm7, e7⟩ := map_some' hm6
      refine hY _ _ (he _ _ _ _ _ { s with heap := hh5, toks := tk5 } _ _ h6 (r4.grow g5) fun z α6 hh6 tk6 g6 v6 => wpAny_gen fun Z hZ => ?_)
      have g56 := g5.trans g6
      have hD6 := g56.keep _ _ hD4
      have hv6 : VR hh6 α σ.length u z := v6.restrict hcl (fun i hi => (g56.agree i hi).symm) (Nat.le_refl _)
      refine wpAny_list_append_plain (items := ys.toArray) ⟨_, hD6⟩ (fun h7 hl7 hs7 => hZ _ _ ?_) (le_sizeLine (by simp; exact ar_37 hn' hj hyl))
      obtain ⟨ep7, hD7⟩ := hl7
      have k7 := (r4.grow g56.forget).setList ok hD6 hs7 hDC (none0 _ hD0) fun i hi e => (live i hi).elim fun ob ho => nos (hD0.symm.trans (e ▸ ho))
      refine ⟨n + 1 - (j + 1), hlq, .mk h7 tk6 _ (j + 1) (ys ++ [z]) ep7 (us₀ ++ [u]) us₂ rfl hlt (W.frame _ _ _ (W.frame _ _ _ hst4 fun b _ o e => g56.keep b o e) fun b hb o e => hs7.extBut b o (fun hb' => hDf (hb' ▸ hb)) e) ((hk4.trans g56.keep).off hD0 fun b o hb e => hs7.extBut b o hb e) k7.1 (fun u => upd_upd) ?_ ?_ ?_
        (((hvr4.up ⟨Nat.le_refl _, fun _ _ => rfl, g56.keep.vk⟩).append (.cons hv6 .nil)).up k7.2) hm7⟩
      · simpa using hD7
      · rw [List.length_append]; exact Nat.add_le_add_right hyl 1
      · rw [hus, ← e7, List.append_assoc]; rfl
  · rw [Nat.le_antisymm hj hge] at hst'
    rw [List.drop_eq_nil_of_le (hn ▸ hge)] at hm'
    refine W.done _ _ _ hst' fun h3 tk3 hs3 => hX _ _ ?_
    have off3 : ∀ b ob, b ≠ I → h'.get? b = some ob → h3.get? b = some ob := fun b ob hb e => hs3 b ob (fun h => hb (List.mem_singleton.mp h)) e
    have k3 := r'.iter gI dI cI tI (none0 _ hI) off3
    obtain ⟨m8, cm8, e18, _⟩ := k3.1.env
    rw [← Option.some.inj hm', List.append_nil] at hus
    exact fin h3 tk3 m8 ys ep (hk'.off hI off3) e18 (off3 _ _ hDI hD') (hus ▸ hvr.up ⟨Nat.le_refl _, fun _ _ => rfl, k3.2⟩) (Nat.le_trans hyl (Nat.le_trans hj hn'))
theorem comp_core {elt iter : Expr} {px pos : Pos} {ifs : List Expr} {t : AM Bool} {m : AM AV} {I : Addr} {fp : List Addr} {n : Nat} {P : Nat → Value → Prop} {St : Nat → Heap → Prop} {α : Nat → Addr} {ρ : AEnv} {σ : Store} {s : Shared} {h₁ : Heap} {tk₁ : Nat} {vs us : List AV} {ts : List (AM Bool)}
    {E : Value → Shared → Prop} {RR : Value → Addr → Result → Shared → Prop}
    (cx : CxG G k c) (co : CompOk c scope x) (hA : ∀ y a, cl.lookup y = some a → c.env.cells.lookup y = some a) (hB : ∀ p ∈ scope.names, p.2 = .free → (cl.lookup p.1).isSome = true)
    (ht : ∀ C, CxG G k (subCx c scope cl C) → SimT prog w (subCx c scope cl C) ifs ts) (htt : t = bAnd ts)
    (he : ∀ C, CxG G k (subCx c scope cl C) → Sim prog w (subCx c scope cl C) (eval elt (compEnvC scope cl C c.env)) m)
    (r : R prog w c α ρ σ s.heap) (W : Walks prog w c.A I fp [I] n P St) (hI : s.heap.get? I = none) (k₁ : HK s.heap h₁) (hst : St 0 h₁) (hfp : ∀ b ∈ fp, b < h₁.objs.size) (hIf : ∀ i h, St i h → IterAt h I)
    (hP : ∀ j y, j < vs.length → P j y → ∃ v, vs[j]? = some v ∧ VR s.heap α σ.length v y) (hn : n = vs.length) (hn' : n ≤ 1000000) (hm : compItems x t m ρ σ vs = some us)
    (fin : ∀ D C h' tk' m' ys ep, s.heap.get? D = none → s.heap.get? C = none → D ≠ C → HK s.heap h' → h'.Ns C m' → h'.get? D = some { cls := .type "list", data := .seq ys.toArray ep } → VRs h' α σ.length us ys → ys.length ≤ 1000000 →
      RR (.ref D) C (.ok .next) { s with heap := h', toks := tk' }) :
    wpAny (model prog w) c.A (newList []) (fun acc s₃ => wpAny (model prog w) c.A (newFunctionEnv scope c.env.globals cl [] c.env.qual none .none (some c.env)) (fun cenv s₄ =>
      codeAny (model prog w) c.A (.compStart (.ListComp elt [⟨.Name x px, iter, ifs, 0⟩] scope pos) 0 (.ref I) acc { cenv with scope := relabel scope c.env }) (RR acc cenv.locals) s₄) E s₃) E { s with heap := h₁, toks := tk₁ } := by
  refine wpAny_newObj_type (wpAny_newFunctionEnv co.cell (by intro y hy; simp at hy) (fun h₂ hns₁ hsb₁ => ?_) co.kind)
  dsimp only at hns₁ hsb₁ ⊢
  generalize hH2 : h₁.push { cls := .type "list", dict := none, data := .seq ([] : List Value).toArray } = H2 at hns₁ hsb₁ ⊢
  have hC : H2.objs.size = h₁.objs.size + 1 := by rw [← hH2, Heap.size_push]
  have hDC : h₁.objs.size ≠ H2.objs.size := by rw [hC]; exact Nat.ne_of_lt (Nat.lt_succ_self _)
  have below : ∀ b, b < h₁.objs.size → b ≠ H2.objs.size ∧ b ≠ h₁.objs.size := fun b hb => ⟨by rw [hC]; exact Nat.ne_of_lt (Nat.lt_succ_of_lt hb), Nat.ne_of_lt hb⟩
  have hDf : h₁.objs.size ∉ fp := fun hm => Nat.lt_irrefl _ (hfp _ hm)
  have hCf : H2.objs.size ∉ fp := fun hm => by have := hfp _ hm; rw [hC] at this; exact Nat.lt_irrefl _ (Nat.lt_of_succ_lt this)
  have old : HK h₁ h₂ := fun b o e => hsb₁.extBut b o (below b (Heap.lt_size e)).1 (Heap.get?_push_of_some _ (hH2 ▸ Heap.get?_push_of_some _ e))
  have hacc : h₂.get? h₁.objs.size = some { cls := .type "list", data := .seq ([] : List Value).toArray } := hsb₁.extBut _ _ hDC (Heap.get?_push_of_some _ (hH2 ▸ Heap.get?_push_size _ rfl))
  have hst₁ : St 0 h₂ := W.frame _ _ _ hst fun b _ o e => old b o e
  have fresh : ∀ a, h₁.objs.size ≤ a → s.heap.get? a = none := fun a ha => by
    cases e : s.heap.get? a with
    | none => rfl
    | some o' => exact absurd (Heap.lt_size (k₁ _ _ e)) (Nat.not_lt.mpr ha)
  have hD0 := fresh h₁.objs.size (Nat.le_refl _)
  have hC0 := fresh H2.objs.size (by rw [hC]; exact Nat.le_succ _)
  have none0 : ∀ a, s.heap.get? a = none → c.h₀.get? a = none := fun a ha => by
    cases e : c.h₀.get? a with
    | none => rfl
    | some o => rw [r.keep _ _ e] at ha; cases ha
  have cx' : CxG G k (subCx c scope cl H2.objs.size) := sub_cx cx co (none0 _ hC0) hA hB
  have live : ∀ i, i < σ.length → ∃ ob, s.heap.get? (α i) = some ob := fun i hi => r.live i hi
  have kk : HK s.heap h₂ := k₁.trans old
  -- the relation in the comprehension's own frame
  have r0 : R prog w (subCx c scope cl H2.objs.size) α (fun y => if y = x then none else ρ y) σ h₂ := by
    have g := r.grow (Grow.same kk α σ)
    obtain ⟨m0, cm, e1, e2, e3, e4⟩ := g.env
    refine ⟨g.keep, ⟨_, cm, hns₁, fun y a hy => e2 y a (hA y a hy), fun y v hy hk => ?_, fun y v hy hk => ?_⟩, ?_, g.objs, g.inj, g.own, fun i hi e => ?_⟩
    · rcases sub_local co hk with rfl | rfl
      · simp at hy
      · by_cases h0 : (".0" : Str) = x
        · rw [if_pos h0] at hy; cases hy
        · rw [if_neg h0, r.dot] at hy; cases hy
    · have hyf := sub_free co hk
      by_cases h0 : y = x
      · rw [if_pos h0] at hy; cases hy
      · rw [if_neg h0] at hy
        have := co.free _ hyf rfl
        exact e4 y v hy (var_not_local this)
    · by_cases h0 : (".0" : Str) = x
      · rw [if_pos h0]
      · rw [if_neg h0]; exact r.dot
    · obtain ⟨ob, ho⟩ := live i hi
      rw [show α i = H2.objs.size from e] at ho
      rw [hC0] at ho; cases ho
  have updx : ∀ v, upd (fun y => if y = x then none else ρ y) x v = upd ρ x v := fun v => funext fun y => by
    unfold upd
    by_cases hy : y = x
    · rw [if_pos hy, if_pos hy]
    · rw [if_neg hy, if_neg hy]; exact if_neg hy
  have loop := comp_loop (elt := elt) (iter := iter) (px := px) (pos := pos) (scope := scope) (RR := RR (.ref h₁.objs.size) H2.objs.size) (D := h₁.objs.size) cx'.ok (lookup_relabel_local co.hx) co.x0 (ht _ cx') htt (he _ cx') none0 live W hI hIf hP hn hn' hD0 hC0 hDC hDf hCf
    (.mk h₂ (tk₁ + ([] : List (Str × Value)).length) _ 0 [] 0 [] us rfl (Nat.zero_le _) hst₁ kk r0 updx hacc (Nat.le_refl _) rfl .nil hm) fun h' tk' m' ys ep a1 a2 a3 a4 a5 => fin _ _ h' tk' m' ys ep hD0 hC0 hDC a1 a2 a3 a4 a5
  exact codeAny_compStart_list loop (W.self 0 _ _ _ hst₁ loop)
end
end Inn
end
section
set_option maxRecDepth 10000
set_option linter.unusedVariables false
namespace Inn
open PySem
variable {prog : Program} {w : World}
section
variable {c : Cx} {G : Heap → Prop} {k : Nat}
theorem intKind_is {kk : Int} {v : Value} (h : (intKind prog w).is kk v = true) : ∃ t, v = .int kk t := by
  cases v <;> simp [intKind, Value.isInt] at h
  subst h; exact ⟨_, rfl⟩
theorem itemsOf_inv {C : Prop} {v σ vs} (h : itemsOf v σ = some vs) (k1 : ∀ lo hi, v = .rng lo hi → (rangeOk lo hi ∧ hi - lo ≤ 1000000) → rngL lo hi = vs → C) (k2 : ∀ i us, v = .ref i → σ[i]? = some (.list us) → us = vs → C)
    (k3 : ∀ i kvs, v = .ref i → σ[i]? = some (.dict kvs) → (kvs.map fun kv => AV.int kv.1) = vs → C) : C := by
  cases v with
  | rng lo hi => exact k1 lo hi rfl (ite_some h).1 (Option.some.inj (ite_some h).2)
  | ref i =>
    replace k2 := k2 i
    replace k3 := k3 i
    clear k1
    unfold itemsOf at h
    dsimp only at h
    cases e : σ[i]? with
    | none => rw [e] at h; exact nos h
    | some o =>
      rw [e] at h
      cases o with
      | list us => exact k2 us rfl e (Option.some.inj h)
      | dict kvs => exact k3 kvs rfl e (Option.some.inj h)
  | _ => exact nos h
theorem KR.keyAt {h α n kvs xs} (hk : KR h α n kvs xs) {j : Nat} {kk : Int} {xx : Value} (e : xs[j]? = some (kk, xx)) : (kvs.map fun kv => AV.int kv.1)[j]? = some (.int kk) := by
  induction hk generalizing j with
  | nil => cases e
  | cons a r ih =>
    cases j with
    | zero => cases e; rfl
    | succ j => exact ih e
theorem Walks.to {A I fp ws n m P St} (W : Walks prog w A I fp ws n P St) (e : m = n) : Walks prog w A I fp ws m P St := by subst e; exact W
theorem lt_two {h : Heap} {o : Obj} {a b : Addr} (ha : a < h.objs.size) (hb : b ∈ [h.objs.size, a]) : b < (h.push o).objs.size := by
  rw [Heap.size_push]
  rcases List.mem_cons.mp hb with rfl | hb
  · exact Nat.lt_succ_self _
  · exact List.mem_singleton.mp hb ▸ Nat.lt_succ_of_lt ha
set_option tactic.hygienic true in
theorem iter_walk {α ρ σ} {s : Shared} {v : AV} {y : Value} {vs : List AV} {Q : Value → Shared → Prop} {E : Value → Shared → Prop} (hh : c.A.handled = none) (r : R prog w c α ρ σ s.heap) (hv : VR s.heap α σ.length v y) (hi : itemsOf v σ = some vs)
    (q : ∀ I fp P St h₁, s.heap.get? I = none → HK s.heap h₁ → Walks prog w c.A I fp [I] vs.length P St → St 0 h₁ → (∀ b ∈ fp, b < h₁.objs.size) → (∀ i h, St i h → IterAt h I) →
      (∀ j z, j < vs.length → P j z → ∃ v, vs[j]? = some v ∧ VR s.heap α σ.length v z) → vs.length ≤ 1000000 → Q (.ref I) { s with heap := h₁ }) : wpAny (model prog w) c.A (pyIter y) Q E s := by
  refine itemsOf_inv hi (fun lo hi' ev hok evs => ?_) (fun i us ev e1 evs => ?_) fun i kvs ev e1 evs => ?_
  · obtain ⟨a, t, u, z, rfl, hr⟩ := VR.inv_rng (ev ▸ hv)
    refine wpAny_pyIter_range hr (small_one hok.1.1 hok.1.2.1 hok.1.2.2.1 hok.1.2.2.2) ?_
    have e : Builtin.Range.rangeSize lo hi' 1 = ((hi' - lo).toNat : Int) := by rw [rangeSize_one]; split <;> omega
    have hl : vs.length = (hi' - lo).toNat := by rw [← evs]; simp [rngL]
    refine q s.heap.objs.size _ _ _ _ (get?_size_none _) (HK.push _ _) (Walks.to (Walks.range hh s.heap.objs.size lo 1 (hi' - lo).toNat) hl) ?_ (fun b hb => ?_) (fun i h hst => ⟨_, _, _, hst, rfl, rfl, by decide⟩) ?_ (by rw [hl]; omega)
    · show Heap.get? _ _ = _
      rw [Heap.get?_push_size _ rfl, e]; simp
    · rw [List.mem_singleton.mp hb, Heap.size_push]; exact Nat.lt_succ_self _
    · rintro j z hj ⟨tk, rfl⟩
      rw [hl] at hj
      refine ⟨.int (lo + j), ?_, ?_⟩
      · rw [← evs]; simp [rngL, hj]
      · simpa using VR.int _ _
  · obtain ⟨hi, rfl⟩ := VR.inv_ref (ev ▸ hv)
    subst evs
    obtain ⟨is, n1, g1, v1, l1⟩ := r.list e1
    have hlt := Heap.lt_size g1
    refine wpAny_pyIter_list ⟨_, g1, rfl, _, rfl⟩ (q s.heap.objs.size _ _ _ _ (get?_size_none _) (HK.push _ _) (Walks.to (Walks.list hh s.heap.objs.size (α i) (Nat.ne_of_lt hlt) is.toArray) v1.length) ⟨⟨_, Heap.get?_push_size _ rfl, rfl, rfl⟩, ⟨_, Heap.get?_push_of_some _ g1, rfl, _, rfl⟩⟩
      (fun b hb => lt_two hlt hb) (fun i h hst => hst.1.elim fun o ho => ⟨_, _, _, ho.1, ho.2.2, ho.2.1, by decide⟩) (fun j z hj hz => ?_) (v1.length ▸ l1))
    obtain ⟨z', e2, hv⟩ := v1.get j us[j] (List.getElem?_eq_getElem hj)
    exact ⟨us[j], List.getElem?_eq_getElem hj, Option.some.inj (e2.symm.trans (List.getElem?_toArray.symm.trans hz)) ▸ hv⟩
  · obtain ⟨hi, rfl⟩ := VR.inv_ref (ev ▸ hv)
    obtain ⟨xs, hd, hk, hne, hl⟩ := r.dict e1
    obtain ⟨ep, hdat⟩ := hd.dictAt
    have hsz : vs.length = xs.length := by rw [← evs, List.length_map, hk.length]
    refine wpAny_pyIter_dict (knd := intKind prog w) (by simpa using hne) hdat (q s.heap.objs.size _ _ _ _ (get?_size_none _) (HK.push _ _) (Walks.to (Walks.dictKeys (knd := intKind prog w) hh s.heap.objs.size (α i) (Nat.ne_of_lt hdat.lt_size) xs ep) hsz) ⟨⟨_, Heap.get?_push_size _ rfl, rfl, rfl⟩, hdat.push _⟩
      (fun b hb => lt_two hdat.lt_size hb) (fun i h hst => hst.1.elim fun o ho => ⟨_, _, _, ho.1, ho.2.2, ho.2.1, by decide⟩) (fun j z hj hz => ?_) (hsz ▸ hl))
    obtain ⟨kk, xx, hx, his⟩ := hz
    obtain ⟨t, rfl⟩ := intKind_is his
    exact ⟨_, evs ▸ hk.keyAt hx, .int _ _⟩
theorem off_vk {h h' : Heap} {C : Addr} {m : Str → Option Value} (hn : h.Ns C m) (hs : Heap.SameBut C h h') : VK h h' := fun b o e v => hs.extBut b o (fun hb => by
  subst hb
  obtain ⟨o', es, ep, ho, hd, _⟩ := hn
  rw [ho] at e; cases e
  rcases v with ⟨_, _, _, v⟩ | ⟨_, _, v⟩ <;> rw [hd] at v <;> cases v) e
theorem grow_list' {σ : Store} {α : Nat → Addr} {h h' : Heap} {vs : List AV} {items : List Value} {a : Addr} {ep : Nat} (k : HK h h') (hn : h.get? a = none)
    (ho : h'.get? a = some { cls := .type "list", data := .seq items.toArray ep }) (hv : VRs h' α σ.length vs items) (hl : items.length ≤ 1000000) :
    ∃ α', Grow prog w h α σ h' α' (σ ++ [.list vs]) ∧ VR h' α' (σ ++ [AO.list vs]).length (.ref σ.length) (.ref a) := by
  have u : Up h' α σ.length h' (fun i => if i = σ.length then a else α i) (σ.length + 1) := ⟨Nat.le_succ _, fun i hi => by simp [Nat.ne_of_lt hi], VK.refl _⟩
  refine ⟨_, Grow.one k hn (.list ho (hv.up u) hl), ?_⟩
  have := VR.ref (h := h') (α := fun i => if i = σ.length then a else α i) (n := (σ ++ [AO.list vs]).length) (i := σ.length) (by simp)
  simpa using this
theorem sim_ListComp {elt iter : Expr} {x : Str} {px pos : Pos} {ifs : List Expr} {scope : Scope} {src : AM AV} {ts : List (AM Bool)} {m : AM AV} (cx : CxG G k c) (co : CompOk c scope x) (hs : ∀ v, foldedSetIterable iter c.env v = pure v)
    (hsrc : Sim prog w c (eval iter c.env) src)
    (ht : ∀ cl C, CxG G k (subCx c scope cl C) → SimT prog w (subCx c scope cl C) ifs ts)
    (he : ∀ cl C, CxG G k (subCx c scope cl C) → Sim prog w (subCx c scope cl C) (eval elt (compEnvC scope cl C c.env)) m) :
    Sim prog w c (eval (.ListComp elt [⟨.Name x px, iter, ifs, 0⟩] scope pos) c.env) (aComp x src (bAnd ts) m) := by
  intro ρ σ v σ' α s Q E hm r q
  obtain ⟨a, σ1, h1, hm⟩ := abind_some hm
  obtain ⟨vs, h2, hm⟩ := bind_some' hm
  obtain ⟨us, h3, hm⟩ := bind_some' hm
  (first | replace q := tr2 hm q | cases hm)
  obtain ⟨cl, ecl, hA, hB⟩ := closure_ok (scope := scope) (env := c.env) (fun p hp hf => by
    exact cx.cells _ (var_not_local (co.free p hp hf)))
  rw [eval_ListComp]
  refine wpAny_comprehension_free (use := none) rfl hs ecl co.kind co.names ?_
  refine hsrc _ _ _ _ _ _ _ _ h1 r fun y α1 hh1 tk1 g1 v1 => ?_
  have r1 := r.grow g1
  refine iter_walk (s := { s with heap := hh1, toks := tk1 }) cx.ok.hand r1 v1 h2 fun I fp P St h₁ hI k₁ W hst hfp hIf hP hl => ?_
  refine comp_core (s := { s with heap := hh1, toks := tk1 }) (RR := fun acc C => compPost (model prog w) c.A E none Q acc C) cx co hA hB (ht cl) rfl (he cl) r1 W hI k₁ hst hfp hIf hP rfl hl h3 ?_
  intro D C h' tk' m' ys ep hD hC hDC hk hn hd hv hyl
  refine ⟨m', hn, fun h'' hs'' => ?_⟩
  have hk'' : HK hh1 h'' := fun b o e => hs''.extBut b o (fun hb => by subst hb; rw [hC] at e; cases e) (hk b o e)
  have hd'' := hs''.extBut _ _ hDC hd
  have vk : VK h' h'' := off_vk hn hs''
  obtain ⟨α', g, v⟩ := grow_list' (h := hh1) (a := D) hk'' hD hd'' (hv.up ⟨Nat.le_refl _, fun _ _ => rfl, vk⟩) hyl
  exact q _ α' h'' tk' (g1.trans g) v
noncomputable def sAssignC (y : Str) (x : Str) (src : AM AV) (t : AM Bool) (m : AM AV) : AS := sAssign y (aComp x src t m)
theorem simS_AssignComp {elt iter : Expr} {x y : Str} {px py pos spos : Pos} {ifs : List Expr} {scope : Scope} {src : AM AV} {ts : List (AM Bool)} {m : AM AV} (cx : CxG G k c) (st : Storable c y) (co : CompOk c scope x) (hs : ∀ v, foldedSetIterable iter c.env v = pure v)
    (hsw : swapsWith (.ListComp elt [⟨.Name x px, iter, ifs, 0⟩] scope pos) (some (.Name y py)) spos.line c.env = pure true)
    (hsrc : Sim prog w c (eval iter c.env) src)
    (ht : ∀ cl C, CxG G k (subCx c scope cl C) → SimT prog w (subCx c scope cl C) ifs ts)
    (he : ∀ cl C, CxG G k (subCx c scope cl C) → Sim prog w (subCx c scope cl C) (eval elt (compEnvC scope cl C c.env)) m) :
    SimS prog w c (exec (.Assign [.Name y py] (.ListComp elt [⟨.Name x px, iter, ifs, 0⟩] scope pos) spos) c.env) (sAssignC y x src (bAnd ts) m) := by
  intro ρ σ f ρ' σ' α s Q E hm r q
  obtain ⟨⟨v, σ2⟩, hm1, hm2⟩ := bind_some' hm
  cases hm2
  clear hm
  obtain ⟨a, σ1, h1, hm⟩ := abind_some hm1
  obtain ⟨vs, h2, hm⟩ := bind_some' hm
  obtain ⟨us, h3, hm⟩ := bind_some' hm
  (first | replace q := tr2 hm q | cases hm)
  obtain ⟨cl, ecl, hA, hB⟩ := closure_ok (scope := scope) (env := c.env) (fun p hp hf => by
    exact cx.cells _ (var_not_local (co.free p hp hf)))
  rw [exec_Assign_Name_used _ _ _ _ hsw]
  refine wpAny_bind (wpAny_standAt (wpAny_bind ?_))
  show wpAny _ _ (do let _ ← comprehension (.ListComp elt [⟨.Name x px, iter, ifs, 0⟩] scope pos) scope c.env _ (newList []) false (eval iter c.env) (some (assign (.Name y py) c.env))) _ _ s
  refine wpAny_bind (wpAny_mono (wpAny_comprehension_free (use := some (assign (.Name y py) c.env)) (Q := fun _ s' => Q .next s') rfl hs ecl co.kind co.names ?_) (fun _ s' hq => wpAny_pure (wpAny_pure hq)) fun _ _ e => e)
  refine hsrc _ _ _ _ _ _ _ _ h1 r fun y1 α1 hh1 tk1 g1 v1 => ?_
  have r1 := r.grow g1
  refine iter_walk (s := { s with heap := hh1, toks := tk1 }) cx.ok.hand r1 v1 h2 fun I fp P St h₁ hI k₁ W hst hfp hIf hP hl => ?_
  refine comp_core (s := { s with heap := hh1, toks := tk1 }) (RR := fun acc C => compPost (model prog w) c.A E (some (assign (.Name y py) c.env)) (fun _ s' => Q .next s') acc C) cx co hA hB (ht cl) rfl (he cl) r1 W hI k₁ hst hfp hIf hP rfl hl h3 ?_
  intro D C h' tk' m' ys ep hD hC hDC hk hn hd hv hyl
  obtain ⟨α', g, v⟩ := grow_list' (h := hh1) (a := D) hk hD hd hv hyl
  have r2 := r1.grow g
  show wpAny _ _ (assign (.Name y py) c.env (.ref D)) _ _ _
  have hCr : ∀ b o, hh1.get? b = some o → b ≠ C := fun b o e hb => by subst hb; rw [hC] at e; cases e
  obtain ⟨m1, cm1, e11, e21, _⟩ := id r1.env
  have hLC : C ≠ c.env.locals := fun e => by
    obtain ⟨o, _, _, ho, _⟩ := e11
    exact hCr _ _ ho e.symm
  have hcC : ∀ z, c.env.cells.lookup z ≠ some C := fun z hz => by
    obtain ⟨o, ho, _⟩ := e21 z C hz
    exact hCr _ _ ho rfl
  refine wpAny_assign_Name (store_any (s := { s with heap := h', toks := tk' }) cx.ok st r2 v fun h3 tk3 r3 u3 fk3 off3 => ?_)
  have hn3 : h3.Ns C m' := by
    obtain ⟨o, es, ep, ho, rest⟩ := hn
    exact ⟨o, es, ep, off3 _ _ ho hLC hcC, rest⟩
  refine ⟨m', hn3, fun h4 hs4 => ?_⟩
  obtain ⟨oC, esC, epC, hoC, hdC, _⟩ := id hn3
  have hne : ∀ b o, h3.get? b = some o → (∀ es ep, o.data ≠ .dict es ep) → b ≠ C := fun b o e hd hb => by
    subst hb; rw [hoC] at e; cases e; exact hd _ _ hdC
  obtain ⟨m3, cm3, e13, e23, e33, e43⟩ := r3.env
  have henv : ∃ (m cm : Str → Option Value), h4.Ns c.env.locals m ∧ (∀ x a, c.env.cells.lookup x = some a → h4.IsCell a (cm x)) ∧
      (∀ z v', upd ρ y (.ref σ1.length) z = some v' → c.env.kindOf z = some .local → ∃ y, m z = some y ∧ VR h3 α' (σ1 ++ [AO.list us]).length v' y) ∧
      (∀ z v', upd ρ y (.ref σ1.length) z = some v' → (c.env.kindOf z = some .cell ∨ c.env.kindOf z = some .free) → ∃ y, cm z = some y ∧ VR h3 α' (σ1 ++ [AO.list us]).length v' y) :=
    ⟨m3, cm3, e13.sameBut hs4 (Ne.symm hLC), fun z a hz => (e23 z a hz).sameBut hs4 fun e => hcC z (e ▸ hz), e33, e43⟩
  have hαC : ∀ i, i < (σ1 ++ [AO.list us]).length → α' i ≠ C := fun i hi e => by
    by_cases hlt : i < σ1.length
    · rw [g.agree i hlt] at e
      obtain ⟨ob, ho⟩ := r1.live i hlt
      exact hCr _ _ ho e
    · have : i = σ1.length := by simp at hi; exact Nat.eq_of_lt_succ_of_not_lt hi hlt
      subst this
      cases v with
      | ref hi => exact hDC e
  have h0C : c.h₀.get? C = none := by
    cases e : c.h₀.get? C with
    | none => rfl
    | some o => exact absurd rfl (hCr _ _ (r1.keep _ _ e))
  obtain ⟨r4, u4, fk4⟩ := R.sameBut (a := C) cx.ok r3 (fun b o hb e => hs4.extBut b o hb e) h0C hαC (fun o e f => by
      rw [hoC] at e; cases e
      rcases f with ⟨_, f⟩ | ⟨_, _, _, f⟩ <;> rw [hdC] at f <;> cases f) henv r3.dot
  exact q _ α' h4 tk3 r4 (((g1.up.trans g.up).trans u3).trans u4) (((g1.fk.trans g.fk).trans fk3).trans fk4) .next
end
end Inn
end
section
set_option maxRecDepth 10000
set_option linter.unusedVariables false
namespace Inn
open PySem PySem.SeqAt
variable {prog : Program} {w : World}
noncomputable def pairsEq (f : AV → AV → Option Bool) : List AV → List AV → Option Bool
  | v :: vs, u :: us => (f v u).bind fun a => (pairsEq f vs us).map fun b => a && b
  | _, _ => some true
noncomputable def dictEq (f : AV → AV → Option Bool) (kws : List (Int × AV)) : List (Int × AV) → Option Bool
  | [] => some true
  | (k, v) :: r => match look kws k with
    | none => some false
    | some u => (f v u).bind fun a => (dictEq f kws r).map fun b => a && b
noncomputable def aEq : Nat → Store → AV → AV → Option Bool
  | 0, _, _, _ => none
  | n + 1, σ, v, u => match v, u with
    | .int a, .int b => some (a == b)
    | .bool a, .bool b => some (a == b)
    | .none, .none => some true
    | .none, .int _ => some false
    | .int _, .none => some false
    | .tup vs, .tup us => (pairsEq (aEq n σ) vs us).map fun b => b && vs.length == us.length
    | .ref i, .ref j => (match σ[i]?, σ[j]? with
      | some (.list vs), some (.list us) => if vs.length = us.length then pairsEq (aEq n σ) vs us else some false
      | some (.dict ka), some (.dict kb) => if ka.length = kb.length then dictEq (aEq n σ) kb ka else some false
      | _, _ => none)
    | _, _ => none
theorem pairs_any {p w p' w'} {es : List DictEntry} {kvs : List (Int × Value)} (h : Pairs (intKind p w) es kvs) : Pairs (intKind p' w') es kvs := by
  induction h with
  | nil => exact .nil
  | cons a b _ ih => exact .cons a b ih
theorem dictOf_any {p w p' w'} {h : Heap} {a : Addr} {kvs : List (Int × Value)} (d : h.DictOf (intKind p w) a kvs) : h.DictOf (intKind p' w') a kvs := by
  obtain ⟨o, es, ep, ho, hx, hd, hk, hp, hn⟩ := d
  exact ⟨o, es, ep, ho, hx, hd, hk, pairs_any hp, hn⟩
theorem SR.list {α σ h i vs} (r : SR prog w α σ h) (e : σ[i]? = some (.list vs)) :
    ∃ items ep, h.get? (α i) = some { cls := .type "list", data := .seq (items : List Value).toArray ep } ∧ VRs h α σ.length vs items ∧ items.length ≤ 1000000 := by
  cases r.objs i _ e with
  | list a b c => exact ⟨_, _, a, b, c⟩
theorem SR.dict {α σ h i kvs} (r : SR prog w α σ h) (e : σ[i]? = some (.dict kvs)) :
    ∃ xs, h.DictOf (intKind prog w) (α i) xs ∧ KR h α σ.length kvs xs ∧ α i ≠ sysModules ∧ xs.length ≤ 1000000 := by
  cases r.objs i _ e with
  | dict a b c d => exact ⟨_, a, b, c, d⟩
theorem KR.keys {h α n} : ∀ {vs xs}, KR h α n vs xs → vs.map (·.1) = xs.map (·.1)
  | _, _, .nil => rfl
  | _, _, .cons _ r => by simp [r.keys]
theorem look_self {kvs : List (Int × AV)} (hn : (kvs.map (·.1)).Nodup) : ∀ p ∈ kvs, look kvs p.1 = some p.2 := by
  induction kvs with
  | nil => intro p hp; cases hp
  | cons a r ih =>
    intro p hp
    simp only [List.map_cons, List.nodup_cons] at hn
    rcases List.mem_cons.mp hp with rfl | hp
    · simp [look]
    · have hne : ¬ a.1 = p.1 := fun e => hn.1 (e ▸ List.mem_map_of_mem hp)
      simp only [look, List.find?_cons, hne, decide_false]
      exact ih hn.2 p hp
theorem KR.mem {h α n} : ∀ {vs xs}, KR h α n vs xs → ∀ p ∈ vs, ∃ x, VR h α n p.2 x
  | _, _, .nil, p, hp => by cases hp
  | _, _, .cons a r, p, hp => by
    rcases List.mem_cons.mp hp with rfl | hp
    · exact ⟨_, a⟩
    · exact r.mem p hp
set_option tactic.hygienic true in
theorem same_true {α σ h} (sr : SR prog w α σ h) : ∀ (n : Nat) (v u : AV) (x : Value) (b : Bool), aEq n σ v u = some b → VR h α σ.length v x → VR h α σ.length u x → b = true
  | 0, v, u, x, b, e, _, _ => by cases e
  | n + 1, v, u, x, b, e, hv, hu => by
    have pl : ∀ (vs us : List AV) (xs : List Value) (b : Bool), VRs h α σ.length vs xs → VRs h α σ.length us xs → pairsEq (aEq n σ) vs us = some b → b = true := by
      intro vs
      induction vs with
      | nil => intro us xs b _ _ e; cases us <;> (cases e; rfl)
      | cons v vs ih =>
        intro us xs b h1 h2 e
        cases h1 with
        | cons a1 r1 =>
        cases h2 with
        | cons a2 r2 =>
        obtain ⟨b1, e1, e⟩ := bind_some' e
        obtain ⟨b2, e2, e⟩ := map_some' e
        rw [← e, same_true sr n _ _ _ _ e1 a1 a2, ih _ _ _ r1 r2 e2]; rfl
    unfold aEq at e
    split at e <;> try simp only [Option.some.injEq] at e
    · obtain ⟨t, rfl⟩ := hv.inv_int; obtain ⟨t', hx⟩ := hu.inv_int; cases hx; rw [← e]; simp
    · have := hv.inv_bool; subst this; have := hu.inv_bool; cases this; rw [← e]; simp
    · exact e.symm
    · have := hv.inv_none; subst this; obtain ⟨t', hx⟩ := hu.inv_int; cases hx
    · have := hu.inv_none; subst this; obtain ⟨t', hx⟩ := hv.inv_int; cases hx
    · obtain ⟨a, items, rfl, g1, r1⟩ := hv.inv_tup
      obtain ⟨a', items', hx, g2, r2⟩ := hu.inv_tup
      cases hx
      rw [g1] at g2
      have : items = items' := by injection g2 with g2; injection g2 with _ _ g2; injection g2 with g2; simpa using g2
      subst this
      obtain ⟨b1, e1, e⟩ := map_some' e
      rw [← e, pl _ _ _ _ r1 r2 e1, r1.length, r2.length]; simp
    · rename_i i j
      obtain ⟨hi, rfl⟩ := hv.inv_ref
      obtain ⟨hj, hx⟩ := hu.inv_ref
      injection hx with hx
      have : i = j := sr.inj i j hi hj hx
      subst this
      split at e
      · rename_i vs us e1 e2
        rw [e1] at e2; cases e2
        obtain ⟨is, n1, g1, v1, l1⟩ := sr.list e1
        rw [if_pos rfl] at e
        exact pl _ _ _ _ v1 v1 e
      · rename_i ka kb e1 e2
        rw [e1] at e2; cases e2
        rw [if_pos rfl] at e
        obtain ⟨xs, hd, hk, _⟩ := sr.dict e1
        have hnd : (ka.map (·.1)).Nodup := by
          rw [hk.keys]
          obtain ⟨_, _, _, _, _, _, _, _, hn⟩ := hd
          exact hn
        have key : ∀ (r : List (Int × AV)) (b : Bool), (∀ p ∈ r, p ∈ ka) → dictEq (aEq n σ) ka r = some b → b = true := by
          intro r
          induction r with
          | nil => intro b _ e; cases e; rfl
          | cons p r ih =>
            intro b hsub e
            unfold dictEq at e
            rw [look_self hnd p (hsub p (.head _))] at e
            obtain ⟨b1, e1, e⟩ := bind_some' e
            obtain ⟨b2, e2, e⟩ := map_some' e
            obtain ⟨x, hx⟩ := hk.mem p (hsub p (.head _))
            rw [← e, same_true sr n _ _ _ _ e1 hx hx, ih _ (fun q hq => hsub q (.tail _ hq)) e2]; rfl
        exact key _ _ (fun _ h => h) e
      · cases e
    · cases e
theorem pairs_all {f : AV → AV → Option Bool} : ∀ {vs us : List AV} {b : Bool}, pairsEq f vs us = some b →
    (∀ (j : Nat) v u, vs[j]? = some v → us[j]? = some u → ∃ bj, f v u = some bj) ∧ b = (List.range (min vs.length us.length)).all (fun j => (f (vs.getD j .none) (us.getD j .none)).getD false)
  | [], us, b, e => by
    cases e
    exact ⟨fun j v u hv => by simp at hv, by simp⟩
  | v :: vs, [], b, e => by
    cases e
    exact ⟨fun j v u _ hu => by simp at hu, by simp⟩
  | v :: vs, u :: us, b, e => by
    obtain ⟨b1, e1, e⟩ := bind_some' e
    obtain ⟨b2, e2, e⟩ := map_some' e
    obtain ⟨h1, h2⟩ := pairs_all e2
    refine ⟨fun j v' u' hv hu => ?_, ?_⟩
    · cases j with
      | zero => simp at hv hu; subst hv hu; exact ⟨_, e1⟩
      | succ j => simp at hv hu; exact h1 j v' u' hv hu
    · have hmin : min (v :: vs).length (u :: us).length = min vs.length us.length + 1 := by simp only [List.length_cons]; exact ar_39
      rw [hmin, List.range_succ_eq_map, List.all_cons, List.all_map, ← e, h2]
      simp only [List.getD_cons_zero, e1, Option.getD_some]
      rfl
theorem KR.look_none {h α n} : ∀ {vs xs}, KR h α n vs xs → ∀ {k : Int}, Inn.look vs k = none → valueAt xs k = none
  | _, _, .nil, k, e => rfl
  | _, _, .cons (k := k') (v := v') (x := x') a r, k, e => by
    by_cases hk : k' = k
    · subst hk
      simp [Inn.look] at e
    · rename_i vs' _
      have e' : Inn.look vs' k = none := by
        simp only [Inn.look, List.find?_cons, hk, decide_false] at e
        exact e
      simp only [valueAt, List.find?_cons, hk, decide_false]
      exact r.look_none e'
set_option tactic.hygienic true in
theorem eq_at {α σ} : ∀ (n : Nat) (v u : AV) (x y : Value) (b : Bool) (A : Around) (s : Shared), SR prog w α σ s.heap → aEq n σ v u = some b → VR s.heap α σ.length v x → VR s.heap α σ.length u y → A.units + n < cLine →
    EqAt A s x y b ∧ RcAt A s x y b ∧ RcNeAt A s x y (!b)
  | 0, v, u, x, y, b, A, s, sr, e, _, _, _ => by cases e
  | n + 1, v, u, x, y, b, A, s, sr, e, hv, hu, hA => by
    have e₀ := e
    have hu0 : A.units < cLine := by exact Nat.lt_of_add_right_lt hA
    have hin : A.in1.units + n < cLine := by show A.units + 1 + n < cLine; exact ar_28 hA
    have ofRc : ∀ {l l' : Addr} {k : Bool}, x = .ref l → y = .ref l' → RcAt A s x y b → EqAt A s x y b := by
      intro l l' k hx hy h
      subst hx hy
      by_cases hne : l = l'
      · subst hne
        have := same_true sr (n + 1) v u _ b e₀ hv hu
        subst this
        exact EqAt.same _
      · exact EqAt.of_refs hne h
    have pl : ∀ {vs us : List AV} {xs ys : List Value} {b : Bool}, VRs s.heap α σ.length vs xs → VRs s.heap α σ.length us ys → pairsEq (aEq n σ) vs us = some b →
        ∀ j (h1 : j < xs.toArray.size) (h2 : j < ys.toArray.size), EqAt A.in1 s xs.toArray[j] ys.toArray[j] ((aEq n σ (vs.getD j .none) (us.getD j .none)).getD false) := by
      intro vs us xs ys b h1 h2 e j hj1 hj2
      have hj1' : j < vs.length := by rw [h1.length]; simpa using hj1
      have hj2' : j < us.length := by rw [h2.length]; simpa using hj2
      obtain ⟨bj, ebj⟩ := (pairs_all e).1 j vs[j] us[j] (by simp [hj1']) (by simp [hj2'])
      obtain ⟨x', ex, vx⟩ := h1.get j vs[j] (by simp [hj1'])
      obtain ⟨y', ey, vy⟩ := h2.get j us[j] (by simp [hj2'])
      have e1 : vs.getD j .none = vs[j] := by simp [List.getD, hj1']
      have e2 : us.getD j .none = us[j] := by simp [List.getD, hj2']
      rw [e1, e2, ebj]
      have e3 : xs.toArray[j] = x' := by
        have := (List.getElem?_eq_some_iff.mp ex).2
        simpa using this
      have e4 : ys.toArray[j] = y' := by
        have := (List.getElem?_eq_some_iff.mp ey).2
        simpa using this
      rw [e3, e4]
      exact (eq_at n _ _ _ _ _ _ _ sr ebj vx vy hin).1
    unfold aEq at e
    split at e <;> try simp only [Option.some.injEq] at e
    · obtain ⟨t, rfl⟩ := hv.inv_int; obtain ⟨t', rfl⟩ := hu.inv_int
      subst e
      exact ⟨EqAt.int_int _ _ _ _, RcAt.int_int _ _ _ _, RcNeAt.int_int _ _ _ _⟩
    · have := hv.inv_bool; subst this; have := hu.inv_bool; subst this
      subst e
      exact ⟨EqAt.bool_bool _ _, RcAt.bool_bool _ _, RcNeAt.bool_bool _ _⟩
    · have := hv.inv_none; subst this; have := hu.inv_none; subst this
      subst e
      exact ⟨EqAt.same _, RcAt.none_none, RcNeAt.none_none⟩
    · have := hv.inv_none; subst this; obtain ⟨t', rfl⟩ := hu.inv_int
      subst e
      exact ⟨EqAt.none_int _ _, RcAt.none_int _ _, RcNeAt.none_int _ _⟩
    · have := hu.inv_none; subst this; obtain ⟨t', rfl⟩ := hv.inv_int
      subst e
      exact ⟨EqAt.int_none _ _, RcAt.int_none _ _, RcNeAt.int_none _ _⟩
    · rename_i vs us
      obtain ⟨a, items, hx, g1, r1⟩ := hv.inv_tup
      obtain ⟨a', items', hy, g2, r2⟩ := hu.inv_tup
      obtain ⟨b1, e1, e⟩ := map_some' e
      have hb : b = ((List.range (min items.toArray.size items'.toArray.size)).all (fun j => (aEq n σ (vs.getD j .none) (us.getD j .none)).getD false) && items.toArray.size == items'.toArray.size) := by
        rw [← e, (pairs_all e1).2, r1.length, r2.length]
        simp
      have hl : s.heap.IsTuple a items.toArray := ⟨_, g1, rfl, _, rfl⟩
      have hl' : s.heap.IsTuple a' items'.toArray := ⟨_, g2, rfl, _, rfl⟩
      have rc : RcAt A s x y b := by rw [hx, hy, hb]; exact RcAt.tuples hl hl' hu0 (pl r1 r2 e1)
      refine ⟨ofRc (k := true) hx hy rc, rc, ?_⟩
      rw [hx, hy, hb]; exact RcNeAt.tuples hl hl' hu0 (pl r1 r2 e1)
    · rename_i i j
      obtain ⟨hi, hx⟩ := hv.inv_ref
      obtain ⟨hj, hy⟩ := hu.inv_ref
      split at e
      · rename_i vs us e1 e2
        obtain ⟨is, n1, g1, v1, l1⟩ := sr.list e1
        obtain ⟨js, n2, g2, v2, l2⟩ := sr.list e2
        have hl : s.heap.IsList (α i) is.toArray := ⟨_, g1, rfl, _, rfl⟩
        have hl' : s.heap.IsList (α j) js.toArray := ⟨_, g2, rfl, _, rfl⟩
        split at e
        · rename_i hlen
          have hsz : is.toArray.size = js.toArray.size := by simp only [List.size_toArray]; rw [← v1.length, ← v2.length]; exact hlen
          have hb : b = (List.range is.toArray.size).all (fun j => (aEq n σ (vs.getD j .none) (us.getD j .none)).getD false) := by
            rw [(pairs_all e).2, List.size_toArray, ← v1.length, ← hlen, Nat.min_self]
          have rc : RcAt A s x y b := by rw [hx, hy, hb]; exact RcAt.lists hl hl' hsz hu0 (pl v1 v2 e)
          refine ⟨ofRc (k := true) hx hy rc, rc, ?_⟩
          rw [hx, hy, hb]; exact RcNeAt.lists hl hl' hsz hu0 (pl v1 v2 e)
        · rename_i hlen
          cases e
          have hsz : (is.toArray.size != js.toArray.size) = true := by simp only [List.size_toArray]; rw [← v1.length, ← v2.length]; simpa using hlen
          have rc : RcAt A s x y false := by rw [hx, hy]; exact RcAt.lists_lengths hl hl' hsz hu0
          refine ⟨ofRc (k := true) hx hy rc, rc, ?_⟩
          rw [hx, hy]; exact RcNeAt.lists_lengths hl hl' hsz hu0
      · rename_i ka kb e1 e2
        obtain ⟨xa, da, hka, hna, hla⟩ := sr.dict e1
        obtain ⟨xb, db, hkb, hnb, hlb⟩ := sr.dict e2
        have hits : ∀ {r xr b}, KR s.heap α σ.length r xr → dictEq (aEq n σ) kb r = some b → PySem.W.KeqHits A.in1 s xb xr b := by
          intro r xr b hr
          induction hr generalizing b with
          | nil => intro e; cases e; exact .nil
          | cons hv hr ih =>
            intro e
            unfold dictEq at e
            split at e
            · rename_i hnone
              cases e
              exact .miss (hkb.look_none hnone)
            · rename_i u' hsome
              obtain ⟨b1, e1, e⟩ := bind_some' e
              obtain ⟨b2, e2, e⟩ := map_some' e
              obtain ⟨y', hy', vy'⟩ := hkb.look hsome
              rw [← e]
              exact .hit hy' (eq_at n _ _ _ _ _ _ _ sr e1 hv vy' hin).1 (ih e2)
        have hma : (α i == sysModules) = false := by simpa using hna
        have hmb : (α j == sysModules) = false := by simpa using hnb
        have key : ∃ r, (xa.length = xb.length → PySem.W.KeqHits A.in1 s xb xa r) ∧ b = (xa.length == xb.length && r) := by
          have hl : ka.length = xa.length := hka.length
          have hl' : kb.length = xb.length := hkb.length
          split at e
          · rename_i hlen
            exact ⟨b, fun _ => hits hka e, by rw [← hl, ← hl', hlen]; simp⟩
          · rename_i hlen
            cases e
            exact ⟨true, fun h => absurd (by rw [hl, hl']; exact h) hlen, by rw [← hl, ← hl']; simpa using hlen⟩
        obtain ⟨r, hr, hb⟩ := key
        have rc : RcAt A s x y b := by
          rw [hx, hy, hb]
          intro p' w' E Q h
          exact PySem.W.keq_eq (knd := intKind p' w') hma hmb (dictOf_any da) (dictOf_any db) hu0 hr h
        refine ⟨ofRc (k := true) hx hy rc, rc, ?_⟩
        rw [hx, hy, hb]
        intro p' w' E Q h
        exact PySem.W.keq_ne (knd := intKind p' w') hma hmb (dictOf_any da) (dictOf_any db) hu0 hr h
      · cases e
    · cases e
noncomputable def cEq (a b : AV) (σ : Store) : Option Bool := aEq 6 σ a b
noncomputable def cNe (a b : AV) (σ : Store) : Option Bool := (aEq 6 σ a b).map (!·)
theorem cmp_eq {c : Cx} {k : Nat} (lv : Lvl k c.A) : Cmp2 prog w c (compareOp .Eq) cEq := by
  intro a b x y α ρ σ v s Q E hf r ha hb q
  exact (eq_at 6 _ _ _ _ _ _ _ r.sr hf ha hb (by have := lv.2.2; exact ar_40 this)).2.1 prog w E Q (q s.toks)
theorem cmp_ne {c : Cx} {k : Nat} (lv : Lvl k c.A) : Cmp2 prog w c (compareOp .NotEq) cNe := by
  intro a b x y α ρ σ v s Q E hf r ha hb q
  obtain ⟨b', e1, rfl⟩ := map_some' hf
  exact (eq_at 6 _ _ _ _ _ _ _ r.sr e1 ha hb (by have := lv.2.2; exact ar_40 this)).2.2 prog w E Q (q s.toks)
end Inn
end
section
set_option maxRecDepth 10000
set_option linter.unusedVariables false
namespace Inn
open PySem
variable {prog : Program} {w : World}
section
variable {c : Cx} {G : Heap → Prop} {k : Nat}
noncomputable def bList : FnM
  | [.ref i], σ => (match σ[i]? with
    | some (.list vs) => some (.ref σ.length, σ ++ [.list vs])
    | some (.dict kvs) => some (.ref σ.length, σ ++ [.list (kvs.map fun kv => .int kv.1)])
    | none => none)
  | [.vals i], σ => (match σ[i]? with
    | some (.dict kvs) => some (.ref σ.length, σ ++ [.list (kvs.map (·.2))])
    | _ => none)
  | _, _ => none
theorem vrs_of {h α n} : ∀ (vs : List AV) (xs : List Value), vs.length = xs.length → (∀ (j : Nat) x, xs[j]? = some x → ∃ v, vs[j]? = some v ∧ VR h α n v x) → VRs h α n vs xs
  | [], [], _, _ => .nil
  | v :: vs, x :: xs, hl, hp => by
    refine .cons ?_ (vrs_of vs xs (by simpa using hl) fun j y hy => ?_)
    · obtain ⟨v', e, h⟩ := hp 0 x rfl
      simp at e; subst e; exact h
    · obtain ⟨v', e, h⟩ := hp (j + 1) y (by simpa using hy)
      exact ⟨v', by simpa using e, h⟩
theorem KR.keysOf {h α n} : ∀ {vs xs}, KR h α n vs xs → vs.map (·.1) = xs.map (·.1)
  | _, _, .nil => rfl
  | _, _, .cons _ r => by simp [r.keysOf]
theorem KR.key {h α n} : ∀ {kvs xs}, KR h α n kvs xs → ∀ (j : Nat) (kk : Int) (xx : Value), xs[j]? = some (kk, xx) → ∃ v, kvs[j]? = some (kk, v) ∧ VR h α n v xx
  | _, _, .nil, j, kk, xx, e => by simp at e
  | _, _, .cons a r, 0, kk, xx, e => by simp at e; obtain ⟨rfl, rfl⟩ := e; exact ⟨_, rfl, a⟩
  | _, _, .cons a r, j + 1, kk, xx, e => by simp at e; simpa using r.key j kk xx e
set_option tactic.hygienic true in
theorem op_list (lv : Lvl k c.A) : OpN prog w c (fun xs => call (.type "list") xs) bList := by
  intro vs xs α ρ σ v σ' s Q E hm r hv q
  unfold bList at hm
  split at hm
  · cases hv with
    | cons hv hn =>
    cases hn
    cases hv with
    | ref hi =>
    split at hm
    · rename_i vs e1
      cases hm
      obtain ⟨is, n1, g1, v1, l1⟩ := r.list e1
      refine call_list_seq _ (.inl rfl) g1 rfl rfl (fun h' c' k hg => ?_) (le_sizeLine (by simpa using l1))
      obtain ⟨α', g, v⟩ := grow_list (a := s.heap.objs.size) r k (get?_size_none _) hg v1 l1
      exact q _ α' h' s.toks g v
    · rename_i kvs e1
      cases hm
      obtain ⟨ys, hd, hk, hne, hl⟩ := r.dict e1
      obtain ⟨ep, hdat⟩ := hd.dictAt
      refine PySem.W.kdl_call (PySem.W.kdl_dict (knd := intKind prog w) (kvs := ys) (ep := ep) (by simpa using hne)) lv.1 hdat (le_sizeLine hl) fun h' tk acc c' k hg hit => ?_
      have hv : VRs s.heap α σ.length (kvs.map fun kv => AV.int kv.1) acc.toList := by
        refine vrs_of _ _ (by have := hit.1; simp [hk.length]; exact ar_41 this) fun j x hx => ?_
        obtain ⟨kk, xx, e2, his⟩ := hit.2 j x (by simpa using hx)
        obtain ⟨t, rfl⟩ := intKind_is his
        obtain ⟨v, e3, _⟩ := hk.key j kk xx e2
        exact ⟨.int kk, by simp [e3], .int _ _⟩
      obtain ⟨α', g, v⟩ := grow_list (a := s.heap.objs.size) (ep := c') (items := acc.toList) r k (get?_size_none _) (by simpa using hg) hv (by have := hit.1; simp; exact Nat.le_trans (Nat.le_of_eq this) hl)
      exact q _ α' h' tk g v
    · cases hm
  · cases hv with
    | cons hv hn =>
    cases hn
    cases hv with
    | vals hi hw =>
    split at hm
    · rename_i kvs e1
      cases hm
      obtain ⟨ys, hd, hk, hne, hl⟩ := r.dict e1
      obtain ⟨ep, hdat⟩ := hd.dictAt
      refine PySem.W.kdl_call (PySem.W.kdl_values (knd := intKind prog w) (kvs := ys) (ep := ep)) lv.1 ⟨hw, hdat⟩ (le_sizeLine hl) fun h' tk acc c' k hg hit => ?_
      have hv : VRs s.heap α σ.length (kvs.map (·.2)) acc.toList := by
        refine vrs_of _ _ (by have := hit.1; simp [hk.length]; exact ar_41 this) fun j x hx => ?_
        obtain ⟨kk, e2⟩ := hit.2 j x (by simpa using hx)
        obtain ⟨v, e3, hvx⟩ := hk.key j kk x e2
        exact ⟨v, by simp [e3], hvx⟩
      obtain ⟨α', g, v⟩ := grow_list (a := s.heap.objs.size) (ep := c') (items := acc.toList) r k (get?_size_none _) (by simpa using hg) hv (by have := hit.1; simp; exact Nat.le_trans (Nat.le_of_eq this) hl)
      exact q _ α' h' tk g v
    · cases hm
  · cases hm
noncomputable def isi (T : String) (v : AV) (σ : Store) : Option Bool := match v with
  | .int _ => if T = "int" then some true else if T = "bool" then some false else none
  | _ => none
noncomputable def aIsi (T : String) (m : AM AV) : AM AV := abind m fun v => fun _ σ => (isi T v σ).map fun b => (.bool b, σ)
set_option tactic.hygienic true in
theorem isi_any {α ρ σ} {s : Shared} {T : String} {v : AV} {x : Value} {b : Bool} {Q : Value → Shared → Prop} {E : Value → Shared → Prop} (hm : isi T v σ = some b) (r : R prog w c α ρ σ s.heap) (hv : VR s.heap α σ.length v x)
    (q : ∀ tk', Q (.bool b) { s with toks := tk' }) : wpAny (model prog w) c.A (call (.builtin "isinstance") [x, .type T]) Q E s := by
  unfold isi at hm
  split at hm
  · cases hv
    split at hm
    · rename_i h; subst h; cases hm; exact IsiPair.int_int (q s.toks)
    · split at hm
      · rename_i h; subst h; cases hm; exact IsiPair.int_bool (q _)
      · cases hm
  · cases hm
theorem sim_isinstance {np tp pos : Pos} {e : Expr} {T : String} {tn : Str} {m : AM AV} (cx : CxG G k c) (hx : c.env.kindOf "isinstance" = some .globalImplicit) (ht : c.env.kindOf tn = some .globalImplicit) (hd : (tn == ("__debug__" : Str)) = false)
    (g : Gl G "isinstance" (.builtin "isinstance")) (gt : Gl G tn (.type T)) (h : Sim prog w c (eval e c.env) m) (he : ∀ r, starEach (e :: r) c.env = (false, eval e c.env) :: starEach r c.env) :
    Sim prog w c (eval (.Call (.Name "isinstance" np) [e, .Name tn tp] [] pos) c.env) (aIsi T m) := by
  intro ρ σ v σ' α s Q E hm r q
  obtain ⟨a, σ1, h1, hm⟩ := abind_some hm
  obtain ⟨b, h2, hm⟩ := map_some' hm
  cases hm
  refine wpAny_Call_ofName (load_gl cx hx (by decide) g r ?_)
  have hb : backTo pos (starEach [e, .Name tn tp] c.env) = [(false, eval e c.env), (false, eval (.Name tn tp) c.env)] := by rw [he]; rfl
  show wpAny _ _ (callWith pos (.builtin "isinstance") [] (backTo pos (starEach [e, .Name tn tp] c.env)) []) _ _ _
  rw [hb]
  refine Calls.callWith_builtin rfl (Calls.evalArgs_plain (Calls.spliced_cons (h _ _ _ _ _ _ _ _ h1 r fun x α1 hh1 tk1 g1 v1 => ?_)))
  refine Calls.spliced_cons (load_gl (s := { s with heap := hh1, toks := tk1 }) cx ht hd gt (r.grow g1) (Calls.spliced_nil ?_))
  exact isi_any (s := { s with heap := hh1, toks := tk1 }) h2 (r.grow g1) v1 fun tk2 => q _ α1 hh1 tk2 g1 (.bool _)
theorem R.change {α ρ σ h h'} {i : Nat} {o : AO} (ok : Ok c) (r : R prog w c α ρ σ h) (hi : i < σ.length) (h0 : c.n₀ ≤ i) (hs : Heap.SameBut (α i) h h') (ho : OR prog w h' α σ.length o (α i)) :
    R prog w c α ρ (σ.set i o) h' ∧ Up h α σ.length h' α (σ.set i o).length ∧ FK h h' := by
  obtain ⟨ob, hob, hnf, hnc⟩ := (r.objs i σ[i] (by simp [hi])).some
  obtain ⟨m, cm, e1, e2, e3, e4⟩ := r.env
  have fk : FK h h' := fun b o e f => hs.extBut b o (fun q => by subst q; rw [hob] at e; cases e; exact hnf f) e
  have u : Up h α σ.length h' α (σ.set i o).length := ⟨by simp, fun _ _ => rfl, fk.vk⟩
  refine ⟨⟨fun b ob' e => hs.extBut b ob' (fun q => by
      subst q
      have := r.own i h0 hi
      rw [this] at e; cases e) (r.keep b ob' e), ⟨m, cm, e1.sameBut hs (fun q => r.apart i hi q.symm), fun x a hx => (e2 x a hx).sameBut hs (fun q => by
      obtain ⟨o', ho', hd'⟩ := e2 x a hx
      rw [q, hob] at ho'; cases ho'; exact hnc _ hd'), fun x v hx hk => let ⟨y, hy, hv⟩ := e3 x v hx hk; ⟨y, hy, hv.up u⟩, fun x v hx hk => let ⟨y, hy, hv⟩ := e4 x v hx hk; ⟨y, hy, hv.up u⟩⟩, r.dot, fun j o' e => ?_, ?_, ?_, ?_⟩, u, fk⟩
  · rw [List.length_set]
    by_cases hj : j = i
    · subst hj
      rw [List.getElem?_set_self hi] at e
      cases e
      exact ho
    · rw [List.getElem?_set_ne (Ne.symm hj)] at e
      have hjl : j < σ.length := (List.getElem?_eq_some_iff.mp e).1
      have hne : α j ≠ α i := fun q => hj (r.inj j i hjl hi q)
      refine (r.objs j o' e).up ⟨Nat.le_refl _, fun _ _ => rfl, fk.vk⟩ fun ob' ho' => hs.extBut _ _ hne ho'
  · simpa using r.inj
  · simpa using r.own
  · simpa using r.apart
noncomputable def put (kvs : List (Int × AV)) (k : Int) (v : AV) : List (Int × AV) :=
  if kvs.any (fun kv => decide (kv.1 = k)) then kvs.map (fun kv => if kv.1 = k then (kv.1, v) else kv) else kvs ++ [(k, v)]
theorem KR.append {h α n} : ∀ {a x b y}, KR h α n a x → KR h α n b y → KR h α n (a ++ b) (x ++ y)
  | _, _, _, _, .nil, r => r
  | _, _, _, _, .cons p q, r => .cons p (q.append r)
theorem KR.put {h α n} {kvs xs} {k : Int} {v : AV} {x : Value} (r : KR h α n kvs xs) (hv : VR h α n v x) : KR h α n (Inn.put kvs k v) (stored xs k x) := by
  have hany : kvs.any (fun kv => decide (kv.1 = k)) = xs.any (fun kv => decide (kv.1 = k)) := by
    have := congrArg (fun l : List Int => l.any fun a => decide (a = k)) r.keysOf
    simpa [List.any_map, Function.comp_def] using this
  unfold Inn.put stored
  rw [hany]
  split
  · clear hany
    rename_i h0; clear h0
    induction r with
    | nil => exact .nil
    | @cons k' v' x' vs xs a _ ih =>
      simp only [List.map_cons]
      by_cases hk : k' = k
      · rw [if_pos hk, if_pos hk]; exact .cons hv ih
      · rw [if_neg hk, if_neg hk]; exact .cons a ih
  · exact r.append (.cons hv .nil)
noncomputable def sAppend (n₀ : Nat) (x : Str) (m : AM AV) : AS := fun ρ σ => (ρ x).bind fun v => match v with
  | .ref i => (match σ[i]? with
    | some (.list vs) => (m ρ σ).bind fun p => if n₀ ≤ i ∧ vs.length < 1000000 then some (.next, ρ, p.2.set i (.list (vs ++ [p.1]))) else none
    | _ => none)
  | _ => none
set_option tactic.hygienic true in
theorem simS_append {x : Str} {np apos pos spos : Pos} {e : Expr} {m : AM AV} (cx : CxG G k c) (hv : isVar (c.env.kindOf x) = true) (hn : okName x = true) (hint : interactive c.env = false) (hsw : swapsWith (.Call (.Attribute (.Name x np) "append" apos) [e] [] pos) none spos.line c.env = pure false) (hline : (apos.endLine == pos.line) = true)
    (he : starEach [e] c.env = [(false, eval e c.env)]) (h : Sim prog w c (eval e c.env) m) :
    SimS prog w c (exec (.Expr (.Call (.Attribute (.Name x np) "append" apos) [e] [] pos) spos) c.env) (sAppend c.n₀ x m) := by
  intro ρ σ f ρ' σ' α s Q E hm r q
  obtain ⟨v, h1, hm⟩ := bind_some' hm
  split at hm
  · rename_i i
    split at hm
    · rename_i vs e1
      obtain ⟨⟨u, σ1⟩, h2, hm⟩ := bind_some' hm
      split at hm
      · rename_i hb
        cases hm
        refine wpAny_Expr_any ?_ hint hsw
        have ht : backTo pos (starEach [e] c.env) = [(false, eval e c.env)] := by rw [he]; rfl
        refine wpAny_Call_append rfl (by rw [ht]; rfl) hline ht ?_
        refine sim_name (c := c) (prog := prog) (w := w) cx hv hn ρ σ (.ref i) σ α s _ _ (by simp [aName, h1]) r fun y α1 hh1 tk1 g1 v1 => ?_
        obtain ⟨hi1, rfl⟩ : i < σ.length ∧ y = .ref (α1 i) := by cases v1 with | ref hi => exact ⟨hi, rfl⟩
        have r1 := r.grow g1
        obtain ⟨is, n1, o1, v1', l1⟩ := r1.list e1
        refine ⟨α1 i, is.toArray, rfl, ⟨_, _, o1, rfl, rfl, rfl⟩, ?_⟩
        refine h _ _ _ _ _ { s with heap := hh1, toks := tk1 } _ _ h2 r1 fun z α2 hh2 tk2 g2 v2 => ?_
        have r2 := r1.grow g2
        have o2 := g2.keep _ _ o1
        have hα : α2 i = α1 i := g2.agree i hi1
        refine wpAny_list_append_plain (items := is.toArray) ⟨_, o2⟩ (fun h3 hl3 hs3 => ?_) (le_sizeLine (by simpa using l1))
        obtain ⟨ep3, hD3⟩ := hl3
        have hi2 : i < σ1.length := Nat.lt_of_lt_of_le hi1 g2.len
        have hlen := v1'.length
        have fk3 : VK hh2 h3 := fun b o e f => hs3.extBut b o (fun q => by
          subst q; rw [o2] at e; cases e
          rcases f with ⟨f, _⟩ | ⟨f | f, _⟩ <;> simp at f) e
        have hor : OR prog w h3 α2 σ1.length (.list (vs ++ [u])) (α2 i) := by
          rw [hα]
          refine .list (items := is ++ [z]) (ep := ep3) (by simpa using hD3) (((v1'.up g2.up).append (.cons v2 .nil)).up ⟨Nat.le_refl _, fun _ _ => rfl, fk3⟩) ?_
          simp; exact ar_43 hb hlen
        obtain ⟨r3, u3, fk3'⟩ := r2.change cx.ok hi2 hb.1 (by rw [hα]; exact hs3) hor
        exact q _ α2 h3 tk2 r3 ((g1.up.trans g2.up).trans u3) ((g1.fk.trans g2.fk).trans fk3') .next
      · cases hm
    · cases hm
  · cases hm
noncomputable def sSetItem (n₀ : Nat) (x : Str) (mi : AM AV) (m : AM AV) : AS := fun ρ σ => (m ρ σ).bind fun p => (ρ x).bind fun v => match v with
  | .ref i => (mi ρ p.2).bind fun q => (match p.2[i]?, q.1 with
    | some (.dict kvs), .int j => if n₀ ≤ i ∧ kvs.length < 1000000 then some (.next, ρ, q.2.set i (.dict (put kvs j p.1))) else none
    | _, _ => none)
  | _ => none
theorem put_length (kvs : List (Int × AV)) (k : Int) (v : AV) : (put kvs k v).length ≤ kvs.length + 1 := by
  unfold put; split <;> simp
set_option tactic.hygienic true in
theorem simS_setItem {x : Str} {np pos' pos : Pos} {i e : Expr} {mi m : AM AV} (cx : CxG G k c) (hv : isVar (c.env.kindOf x) = true) (hn : okName x = true) (hsw : swapsWith e (some (.Subscript (.Name x np) i pos')) pos.line c.env = pure false)
    (hi : Sim prog w c (eval i c.env) mi) (h : Sim prog w c (eval e c.env) m) :
    SimS prog w c (exec (.Assign [.Subscript (.Name x np) i pos'] e pos) c.env) (sSetItem c.n₀ x mi m) := by
  intro ρ σ f ρ' σ' α s Q E hm r q
  obtain ⟨⟨u, σ1⟩, h1, hm⟩ := bind_some' hm
  obtain ⟨v, h2, hm⟩ := bind_some' hm
  split at hm
  · rename_i a
    obtain ⟨⟨z, σ2⟩, h3, hm⟩ := bind_some' hm
    refine wpAny_Assign_Subscript (h _ _ _ _ _ _ _ _ h1 r fun y1 α1 hh1 tk1 g1 v1 => ?_) hsw
    have r1 := r.grow g1
    refine sim_name (c := c) (prog := prog) (w := w) cx hv hn ρ σ1 (.ref a) σ1 α1 { s with heap := hh1, toks := tk1 } _ _ (by simp [aName, h2]) r1 fun y2 α2 hh2 tk2 g2 v2 => ?_
    have r2 := r1.grow g2
    refine hi _ _ _ _ _ { s with heap := hh2, toks := tk2 } _ _ h3 r2 fun y3 α3 hh3 tk3 g3 v3 => ?_
    have r3 := r2.grow g3
    obtain ⟨ha, rfl⟩ : a < σ1.length ∧ y2 = .ref (α2 a) := by cases v2 with | ref hi => exact ⟨hi, rfl⟩
    have hα : α3 a = α2 a := g3.agree a ha
    have ha3 : a < σ2.length := Nat.lt_of_lt_of_le ha g3.len
    have vu : VR hh3 α3 σ2.length u y1 := (v1.up g2.up).up g3.up
    have fin : ∀ h4 tk4 o', R prog w c α3 ρ (σ2.set a o') h4 → Up hh3 α3 σ2.length h4 α3 (σ2.set a o').length → FK hh3 h4 → some (AF.next, ρ, σ2.set a o') = some (f, ρ', σ') → Q .next { s with heap := h4, toks := tk4 } := by
      intro h4 tk4 o' r4 u4 fk4 e
      cases e
      exact q _ α3 h4 tk4 r4 (((g1.up.trans g2.up).trans g3.up).trans u4) (((g1.fk.trans g2.fk).trans g3.fk).trans fk4) .next
    split at hm
    · rename_i kvs j e1 e2
      split at hm
      · rename_i hb
        subst e2
        obtain ⟨t, rfl⟩ : ∃ t, y3 = .int j t := by cases v3 with | int _ t => exact ⟨t, rfl⟩
        obtain ⟨xs, hd, hk, hne, hl⟩ := r2.dict e1
        have hd3 : hh3.DictOf (intKind prog w) (α2 a) xs := by
          obtain ⟨o, es, ep, ho, rest⟩ := hd
          exact ⟨o, es, ep, g3.keep _ _ ho, rest⟩
        have hkl := hk.length
        refine wpAny_setItem_pairs (knd := intKind prog w) (k := j) (by simp [intKind, Value.isInt]) hd3 (fun h4 hD4 hs4 => ?_) (le_sizeLine hl)
        have vk4 : VK hh3 h4 := fun b o e f => hs4.extBut b o (fun q => by
          subst q
          obtain ⟨o', es, ep, ho, hx, hdt, _⟩ := hd3
          rw [ho] at e; cases e
          rcases f with ⟨_, _, _, f⟩ | ⟨_, _, f⟩ <;> rw [hdt] at f <;> cases f) e
        have hk4 := ((hk.up g3.up).put (k := j) vu).up (⟨Nat.le_refl _, fun _ _ => rfl, vk4⟩ : Up hh3 α3 σ2.length h4 α3 σ2.length)
        have hor : OR prog w h4 α3 σ2.length (.dict (put kvs j u)) (α3 a) := by
          rw [hα]
          refine .dict hD4 hk4 hne ?_
          rw [← hk4.length]
          have := put_length kvs j u
          exact ar_44 hb this
        obtain ⟨r4, u4, fk4⟩ := r3.change cx.ok ha3 hb.1 (by rw [hα]; exact hs4) hor
        exact fin _ _ _ r4 u4 fk4 hm
      · cases hm
    · cases hm
  · cases hm
end
end Inn
end
section
set_option maxRecDepth 10000
set_option linter.unusedVariables false
namespace Inn
open PySem PySem.W PyProof.Rows
variable {prog : Program} {w : World}
structure Gr (K : Frag) (h : Heap) : Prop where
  kin : K.In h
  lim : h.NoLimit
  ns : ∃ mg, h.Ns mainGlobals mg
  bs : ∃ mb, h.Ns builtinsNs mb ∧ ∀ x : Str, x ≠ "__name__" → mb x = bootBuiltins x
theorem Gr.mono {K : Frag} (h h' : Heap) (k : HK h h') (g : Gr K h) : Gr K h' := by
  obtain ⟨mg, e1⟩ := g.ns
  obtain ⟨mb, e2, e3⟩ := g.bs
  exact ⟨g.kin.keeps k, g.lim.keeps k, ⟨mg, e1.keeps k⟩, ⟨mb, e2.keeps k, e3⟩⟩
theorem gl_def {K : Frag} {x : Str} {v : Value} (e : nsIn K mainGlobals x = some (some v)) : Gl (Gr K) x v := by
  intro h g
  obtain ⟨mg, e1⟩ := g.ns
  exact ⟨mg, e1, .inl (mg_of g.kin e1 e)⟩
theorem gl_bi {K : Frag} {x : Str} {v : Value} (e : nsIn K mainGlobals x = some none) (hn : (x == ("__name__" : Str)) = false) (hb : bootBuiltins x = some v) : Gl (Gr K) x v := by
  intro h g
  obtain ⟨mg, e1⟩ := g.ns
  obtain ⟨mb, e2, e3⟩ := g.bs
  exact ⟨mg, e1, .inr ⟨mg_none_of g.kin e1 e, mb, e2, by rw [e3 x (by simpa using hn), hb]⟩⟩
abbrev cxOf (fd : FuncData) (f : Addr) (A : Around) (L : Addr) (h₀ : Heap) (n₀ : Nat) : Cx := ⟨A, callEnvC fd L f, h₀, n₀⟩
theorem fn_def {X : FnX} (hX : Exp prog w X) {K : Frag} {k : Nat} {f : Addr} {oc : Value} {od : Option Addr} {osl : Array (Option Value)} {name qual : Str} {params : Arguments} {body : List Stmt} {scope : Scope} {doc pm cdv ct : Value} {an : Option Addr} {ps : List Str} {m : Nat → AS}
    (ho : K.lookup f = some ⟨oc, od, .func (fnOf name qual params body scope .none .none doc pm an cdv ct), osl⟩) (hcd : codeIn K cdv qual = true)
    (hbind : ∀ xs : List Value, xs.length = ps.length → bindArgs (fnOf name qual params body scope .none .none doc pm an cdv ct) ⟨xs, []⟩ = pure (ps.zip xs))
    (hkind : (ps.all fun p => !(p == (".0" : Str)) && (scope.names.lookup p == some .local || scope.names.lookup p == some .cell)) = true)
    (hco : scope.isCoroutine = false) (hgen : scope.isGenerator = false) (hk : scope.kind = .function) (hfree : (scope.names.all fun p => !(p.2 == NameKind.free)) = true)
    (hb : ∀ A L h₀ n₀, CxG (Gr K) k (cxOf (fnOf name qual params body scope .none .none doc pm an cdv ct) f A L h₀ n₀) →
      SimS prog w (cxOf (fnOf name qual params body scope .none .none doc pm an cdv ct) f A L h₀ n₀) (execs body (cxOf (fnOf name qual params body scope .none .none doc pm an cdv ct) f A L h₀ n₀).env) (m n₀)) :
    FnOk prog w (Gr K) (k + 1) f (aFnX X ps m) := by
  refine fn_ok hX (fd := fnOf name qual params body scope .none .none doc pm an cdv ct) (body := body) Gr.mono (fun h g => ⟨⟨_, g.kin _ _ ho, rfl⟩, g.lim, codeRec_of g.kin hcd⟩) rfl rfl hbind ?_ ?_ hco hgen hk ?_
  · intro p hp
    have := List.all_eq_true.mp hkind p hp
    simp only [Bool.and_eq_true, Bool.or_eq_true, beq_iff_eq, Bool.not_eq_true', beq_eq_false_iff_ne] at this
    exact this
  · intro n x hx
    exact cellsFrom_some _ _ _ (.inl hx)
  · intro A L h₀ n₀ lv g ok
    refine hb A L h₀ n₀ ⟨ok, rfl, rfl, lv, g, Gr.mono, fun x hx => ?_⟩
    rcases hx with hx | hx
    · exact cellsFrom_some _ _ _ (.inl hx)
    · exfalso
      have hx' : scope.names.lookup x = some .free := hx
      have hm : (x, NameKind.free) ∈ scope.names := mem_of_lookup hx'
      have := List.all_eq_true.mp hfree _ hm
      simp at this
theorem bind1 {P : List Value → Prop} (h : ∀ a, P [a]) : ∀ xs : List Value, xs.length = 1 → P xs := by
  intro xs hx
  cases xs with
  | nil => cases hx
  | cons a r => cases r with | nil => exact h a | cons _ _ => cases hx
theorem bind2 {P : List Value → Prop} (h : ∀ a b, P [a, b]) : ∀ xs : List Value, xs.length = 2 → P xs := by
  intro xs hx
  cases xs with
  | nil => cases hx
  | cons a r => exact bind1 (P := fun l => P (a :: l)) (fun b => h a b) r (Nat.succ.inj hx)
theorem bind3 {P : List Value → Prop} (h : ∀ a b c, P [a, b, c]) : ∀ xs : List Value, xs.length = 3 → P xs := by
  intro xs hx
  cases xs with
  | nil => cases hx
  | cons a r => exact bind2 (P := fun l => P (a :: l)) (fun b c => h a b c) r (Nat.succ.inj hx)
theorem bind4 {P : List Value → Prop} (h : ∀ a b c d, P [a, b, c, d]) : ∀ xs : List Value, xs.length = 4 → P xs := by
  intro xs hx
  cases xs with
  | nil => cases hx
  | cons a r => exact bind3 (P := fun l => P (a :: l)) (fun b c d => h a b c d) r (Nat.succ.inj hx)
theorem callee_fn {K : Frag} {f : Addr} {oc : Value} {od : Option Addr} {osl : Array (Option Value)} {fd : FuncData} (ho : K.lookup f = some ⟨oc, od, .func fd, osl⟩) : Callee (Gr K) (.ref f) := .fn (fun h g => g.kin _ _ ho) rfl
end Inn
namespace Inn
open PySem
variable {prog : Program} {w : World} {c : Cx} {G : Heap → Prop} {k : Nat}
theorem op_fn_le {f : Addr} {F : FnM} {j : Nat} (cx : CxG G k c) (hF : FnOk prog w G j f F) (hj : j ≤ k) : OpN prog w c (fun xs => call (.ref f) xs) F :=
  fun vs xs α ρ σ v σ' s Q E hm r hv q => hF _ _ _ _ _ _ _ _ _ _ (cx.lv.mono hj) (cx.here r) r.sr hv hm q
noncomputable def compOkB (env : Env) (scope : Scope) (x : Str) : Bool :=
  (scope.names.lookup x == some .local) && !(x == (".0" : Str)) &&
  scope.names.all fun y => !(y.2 == NameKind.cell) && (!(y.2 == NameKind.local) || (scope.names.lookup y.1 == some .local && (y.1 == x || y.1 == (".0" : Str)))) &&
    (!(y.2 == NameKind.free) || (isVar (env.kindOf y.1) && !(env.kindOf y.1 == some .local)))
theorem compOk_of {scope : Scope} {x : Str} (hk : scope.kind = .function) (h : compOkB c.env scope x = true) : CompOk c scope x := by
  simp only [compOkB, Bool.and_eq_true, Bool.or_eq_true, beq_iff_eq, Bool.not_eq_true', beq_eq_false_iff_ne, List.all_eq_true] at h
  obtain ⟨⟨h1, h2⟩, h3⟩ := h
  refine ⟨fun y hy => (h3 y hy).1.1, hk, h1, h2, fun y hy e => ?_, fun y hy e => ?_, fun y hy e => ?_⟩
  · rcases (h3 y hy).1.2 with h | h
    · exact absurd e h
    · exact h.1
  · rcases (h3 y hy).1.2 with h | h
    · exact absurd e h
    · exact h.2
  · rcases (h3 y hy).2 with h | h
    · exact absurd e h
    · exact h
end Inn
end
section
set_option maxRecDepth 10000
set_option linter.unusedVariables false
namespace Inn
open PySem PySem.W
variable {prog : Program} {w : World}
section
variable {c : Cx} {G : Heap → Prop} {k : Nat}
noncomputable def Low (G : Heap → Prop) : Prop := ∀ h, G h → sysModules < h.objs.size
theorem gr_low {K : Frag} : Low (Gr K) := fun h g => PyProof.Rows.modules_low g.lim
theorem grow_dict {σ : Store} {α : Nat → Addr} {h h' : Heap} {kvs : List (Int × AV)} {xs : List (Int × Value)} {a : Addr} (k : HK h h') (hn : h.get? a = none)
    (hd : h'.DictOf (intKind prog w) a xs) (hv : KR h' α σ.length kvs xs) (ha : a ≠ sysModules) (hl : xs.length ≤ 1000000) :
    ∃ α', Grow prog w h α σ h' α' (σ ++ [.dict kvs]) ∧ VR h' α' (σ ++ [AO.dict kvs]).length (.ref σ.length) (.ref a) := by
  have u : Up h' α σ.length h' (fun i => if i = σ.length then a else α i) (σ.length + 1) := ⟨Nat.le_succ _, fun i hi => by simp [Nat.ne_of_lt hi], VK.refl _⟩
  refine ⟨_, Grow.one k hn (.dict hd (hv.up u) ha hl), ?_⟩
  have := VR.ref (h := h') (α := fun i => if i = σ.length then a else α i) (n := (σ ++ [AO.dict kvs]).length) (i := σ.length) (by simp)
  simpa using this
noncomputable def aDict0 : AM AV := fun _ σ => some (.ref σ.length, σ ++ [.dict []])
theorem sim_Dict0 {pos : Pos} (cx : CxG G k c) (low : Low G) : Sim prog w c (eval (.Dict [] [] pos) c.env) aDict0 := by
  intro ρ σ v σ' α s Q E hm r q
  cases hm
  refine wpAny_Dict_empty ?_
  have hl := low _ (cx.here r)
  obtain ⟨α', g, v⟩ := grow_dict (prog := prog) (w := w) (kvs := []) (xs := []) (α := α) (HK.push s.heap { cls := .type "dict", data := .dict #[] }) (get?_size_none _) (Heap.DictOf.new s.heap) .nil (fun e => absurd hl (by rw [← e]; exact Nat.lt_irrefl _)) (by simp)
  exact q _ α' _ s.toks g v
theorem intsAre_of {h α n} : ∀ {vs : List AV} {xs : List Value} {ns : List Int}, VRs h α n vs xs → intsOf vs = some ns → PyProof.Rows.IntsAre xs ns
  | _, _, _, .nil, e => by cases e; exact .nil
  | _, _, _, .cons a r, e => by
    cases a <;> simp only [intsOf, reduceCtorEq] at e
    obtain ⟨ns, e1, rfl⟩ := map_some' e
    exact .cons _ _ (intsAre_of r e1)
theorem vrs_ints {h α n} : ∀ {xs : List Value} {ns : List Int}, PyProof.Rows.IntsAre xs ns → VRs h α n (ns.map .int) xs
  | _, _, .nil => .nil
  | _, _, .cons _ _ r => .cons (.int _ _) (vrs_ints r)
noncomputable def hits (n : Int) : Value → Bool
  | .int m _ => m == n
  | _ => false
noncomputable def aValues (x : Str) : AM AV := fun ρ σ => (ρ x).bind fun v => match v with
  | .ref i => (match σ[i]? with
    | some (.dict _) => some (.vals i, σ)
    | _ => none)
  | _ => none
theorem sim_values {x : Str} {np apos pos : Pos} (cx : CxG G k c) (hv : isVar (c.env.kindOf x) = true) (hn : okName x = true) (hline : (apos.endLine == pos.line) = true := by rfl) :
    Sim prog w c (eval (.Call (.Attribute (.Name x np) "values" apos) [] [] pos) c.env) (aValues x) := by
  intro ρ σ v σ' α s Q E hm r q
  obtain ⟨v1, h1, hm⟩ := bind_some' hm
  split at hm
  · rename_i i
    split at hm
    · rename_i kvs e1
      cases hm
      refine wpAny_Call_method0_late rfl hline ?_
      refine sim_name (c := c) (prog := prog) (w := w) cx hv hn ρ σ (.ref i) σ α s _ _ (by simp [aName, h1]) r fun y α1 hh1 tk1 g1 v1 => ?_
      have r1 := r.grow g1
      obtain ⟨hi1, rfl⟩ : i < σ.length ∧ y = .ref (α1 i) := by cases v1 with | ref hi => exact ⟨hi, rfl⟩
      obtain ⟨xs, hd, hk, hne, hl⟩ := r1.dict e1
      refine ⟨"dict", _, F.plainAttrs_dict, F.slot_dict_values, F.type_dict_values, hd.typeIs, fun a ha => ?_, ?_⟩
      · cases ha
        obtain ⟨o, _, _, ho, hx, _⟩ := hd
        exact ⟨o, ho, hx.2.1⟩
      · refine Calls.callWith_builtin rfl (evalArgs_none ?_)
        refine call_meetsIn F.slot_dict_values hd.typeIs F.entry_dict_values (F.args_dict_values_1 _) (meets_dict_values (intKind prog w) (α1 i) (by simpa using hne)) ⟨⟨xs, hd⟩, ?_⟩
        have kk : HK hh1 (hh1.push { cls := .type "dict_values", data := .fields #[.ref (α1 i)] }) := HK.push _ _
        exact q _ α1 _ tk1 (g1.trans (Grow.same kk α1 _)) (.vals hi1 ⟨_, Heap.get?_push_size _ rfl, rfl, rfl⟩)
    · cases hm
  · cases hm
end
end Inn
end
section
set_option maxRecDepth 10000
set_option linter.unusedVariables false
namespace Inn
open PySem PySem.W
variable {prog : Program} {w : World}
section
variable {A : Around} {E : Value → Shared → Prop} {s : Shared}
theorem lk_list_keys : typeLookup (.type "list") "keys" = pure none := by rw [typeLookup_type, builtinLookup_eq_fast]; kernel_rfl
theorem keys_miss {a : Addr} {xs : Array Value} {k : Nat} {Q : Option Value → Shared → Prop} (hx : s.heap.get? a = some { cls := .type "list", data := .seq xs k }) (hA : A.handled = none)
    (h : ∀ h' tk, HK s.heap h' → Q none { s with heap := h', toks := tk }) : wpAny (model prog w) A (getAttr? (.ref a) "keys") Q E s := by
  obtain ⟨hp, g, d, tk, os⟩ := s
  have hT : ∀ tk', (⟨hp, g, d, tk', os⟩ : Shared).TypeIs (.ref a) "list" := fun _ => ⟨_, hx, rfl⟩
  have f1 := sub_AttributeError
  have f3 := F.slot_list_getattribute.lookup
  have f4 := F.slot_list_getattribute.bind (.ref a)
  have f5 := am_list_getattr_none
  have hmiss := lk_list_keys
  unfold getAttr? getAttrBy? getAttrBy
  repeat (any_goals (first | assumption | exact hT _ | ((with_reducible show wpAny _ _ (call (Value.builtin "list.__getattribute__") _ _) _ _ _); refine call_meets F.slot_list_getattribute (hT _) am_entry_list_getattribute (F.args_list_getattribute_2 _ _) (meets_getattribute_miss_list a xs k #[] "keys" _ hmiss (by decide +kernel) (by decide +kernel)) ⟨hx, hA, fun h' tk' e hx' => ?_⟩) | wp_step))
  obtain ⟨t', u', he⟩ := hx'.there
  show wpAny _ _ (getattributeRaised _ _ _ _ _ _ _) _ _ _
  unfold getattributeRaised
  repeat (any_goals (first | assumption | wp_step))
  exact h _ _ hx'.keeps
theorem pair_items {t : Addr} {x y : Value} {Q : List Value → Shared → Prop} (hx : s.heap.get? t = some (tupObj [x, y])) (h : Q [x, y] s) : wpAny (model prog w) A (Builtin.Dict.pairItems (.ref t)) Q E s := by
  unfold Builtin.Dict.pairItems
  refine wpAny_bind (wpAny_typeOf (T := "tuple") ⟨_, hx, rfl⟩ ?_)
  rw [if_pos (by decide)]
  unfold seqItems?
  refine wpAny_bind ?_
  refine wpAny_bind (wpAny_load hx ?_)
  exact wpAny_pure (wpAny_pure h)
theorem entry_update_loop : entryFor table "dict.update.loop" = some Builtin.«dict.update.loop» := entryFor_of_tree (by kernel_rfl)
theorem plain_update_loop : plainId "dict.update.loop" = true := by decide +kernel
inductive TupPairs (h : Heap) : List Value → List (Int × Value) → Prop
  | nil : TupPairs h [] []
  | cons {t : Addr} {k : Int} {u : Tok} {v : Value} {xs kvs} : h.get? t = some (tupObj [.int k u, v]) → TupPairs h xs kvs → TupPairs h (.ref t :: xs) ((k, v) :: kvs)
theorem TupPairs.keeps {h h' : Heap} (k : ∀ b o, h.get? b = some o → (∃ items, o = tupObj items) → h'.get? b = some o) : ∀ {xs kvs}, TupPairs h xs kvs → TupPairs h' xs kvs
  | _, _, .nil => .nil
  | _, _, .cons e r => .cons (k _ _ e ⟨_, rfl⟩) (r.keeps k)
theorem update_loop {d I l : Addr} {items : List Value} {R : Result → Shared → Prop} (hA : A.handled = none) (hne : l ≠ I) (hdl : d ≠ l) (hdI : d ≠ I) (hlen : items.length ≤ 1000000) :
    ∀ (rest : List Value) (kvs : List (Int × Value)) (acc : List (Int × Value)) (pre : List Value) (s : Shared), items = pre ++ rest → TupPairs s.heap rest kvs →
      s.heap.IsListIter I l pre.length → s.heap.IsList l items.toArray → s.heap.DictOf (intKind prog w) d acc → acc.length ≤ pre.length →
      (∀ h' tk, (∀ b o, b ≠ I → b ≠ d → s.heap.get? b = some o → h'.get? b = some o) → h'.DictOf (intKind prog w) d (kvs.foldl (fun a p => stored a p.1 p.2) acc) → (kvs.foldl (fun a p => stored a p.1 p.2) acc).length ≤ items.length → R (.ok (.ret .none)) { s with heap := h', toks := tk }) →
      codeAny (model prog w) A (.builtin "dict.update.loop" ⟨[.ref d, .ref I, rawInt pre.length, .none], []⟩) R s
  := by
  intro rest
  induction rest with
  | nil =>
    intro kvs acc pre s hi tp hit hl hd hal h
    cases tp
    rw [List.append_nil] at hi
    subst hi
    refine codeAny_builtin entry_update_loop ?_
    rw [Around.under_plainId plain_update_loop _]
    unfold Builtin.«dict.update.loop»
    have W := Walks.list (prog := prog) (w := w) (A := A.in1) hA I l hne items.toArray
    have hsz : items.toArray.size = items.length := by simp
    refine wpAny_bind (W.done s _ _ (by rw [hsz]; exact ⟨hit, hl⟩) fun h' tk hk => ?_)
    show wpAny _ _ (Builtin.Dict.addKeywords d [] >>= _) _ _ _
    refine wpAny_bind (wpAny_pure (wpAny_pure ?_))
    refine h h' tk (fun b o hb hb' e => hk b o (by simpa using hb) e) ?_ (by simpa using hal)
    obtain ⟨o, es, ep, ho, rr⟩ := hd
    exact ⟨o, es, ep, hk _ _ (by simpa using hdI) ho, rr⟩
  | cons y rest ih =>
    intro kvs acc pre s hi tp hit hl hd hal h
    cases tp with
    | @cons t k u v _ kvs e r =>
    refine codeAny_builtin entry_update_loop ?_
    rw [Around.under_plainId plain_update_loop _]
    unfold Builtin.«dict.update.loop»
    have W := Walks.list (prog := prog) (w := w) (A := A.in1) hA I l hne items.toArray
    refine wpAny_bind (W.item pre.length s _ _ (by rw [hi]; simp) ⟨hit, hl⟩ fun x h1 tk1 hx hst hk => ?_)
    have hx' : x = .ref t := by
      rw [hi] at hx
      simp at hx
      exact hx.symm
    subst hx'
    have htI : t ≠ I := fun e' => by
      obtain ⟨o, ho, hc, _⟩ := hit
      rw [← e', e] at ho; cases ho; exact absurd hc (by simp)
    have htd : t ≠ d := fun e' => by
      obtain ⟨o, es, ep, ho, hc, _⟩ := hd
      rw [← e', e] at ho; cases ho; exact absurd hc.1 (by simp)
    have e1 := hk _ _ (by simpa using htI) e
    refine wpAny_bind (wpAny_holding (wpAny_bind (wpAny_tryCatch (pair_items e1 ?_))))
    have hd1 : h1.DictOf (intKind prog w) d acc := by
      obtain ⟨o, es, ep, ho, rr⟩ := hd
      exact ⟨o, es, ep, hk _ _ (by simpa using hdI) ho, rr⟩
    have hpl : pre.length < items.length := by rw [hi]; simp
    refine wpAny_holding (wpAny_dictSet_pairs (knd := intKind prog w) (k := k) (by simp [intKind, Value.isInt]) hd1 (fun h2 hd2 hs2 => ?_) (le_sizeLine (by exact ar_45 hpl hlen hal)))
    refine wpAny_pure ⟨plainId_quiet plain_update_loop _, ?_⟩
    have hlen2 : (pre ++ [Value.ref t]).length = pre.length + 1 := by simp
    have key := ih kvs (stored acc k v) (pre ++ [.ref t]) { s with heap := h2, toks := tk1 + 1 } (by simp [hi]) (r.keeps fun b o eb ho => ?_) ?_ ?_ hd2 ?_ (fun h' tk hk' hd' hl' => h h' tk (fun b o hb hb' eb => hk' b o hb hb' (hs2.extBut b o hb' (hk b o (by simpa using hb) eb))) hd' hl')
    · rw [hlen2] at key
      exact key
    · have hbI : b ≠ I := fun e' => by
        subst e'
        obtain ⟨items', rfl⟩ := ho
        obtain ⟨o, ho, hc, _⟩ := hit
        rw [eb] at ho; cases ho; exact absurd hc (by simp)
      have hbd : b ≠ d := fun e' => by
        subst e'
        obtain ⟨items', rfl⟩ := ho
        obtain ⟨o, es, ep, ho, hc, _⟩ := hd
        rw [eb] at ho; cases ho; exact absurd hc.1 (by simp)
      exact hs2.extBut b o hbd (hk b o (by simpa using hbI) eb)
    · rw [hlen2]
      obtain ⟨o, ho, rr⟩ := hst.1
      exact ⟨o, hs2.extBut _ _ (Ne.symm hdI) ho, rr⟩
    · obtain ⟨o, ho, rr⟩ := hst.2
      exact ⟨o, hs2.extBut _ _ (Ne.symm hdl) ho, rr⟩
    · have := stored_length_le acc k v
      rw [hlen2]; exact ar_46 this hal
end
section
variable {c : Cx} {G : Heap → Prop} {k : Nat}
noncomputable def pairsL : List AV → Option (List (Int × AV))
  | [] => some []
  | .tup [.int n, v] :: r => (pairsL r).map ((n, v) :: ·)
  | _ => none
noncomputable def bDict : FnM
  | [.ref i], σ => (match σ[i]? with
    | some (.dict kvs) => some (.ref σ.length, σ ++ [.dict kvs])
    | some (.list vs) => (pairsL vs).map fun kvs => (.ref σ.length, σ ++ [.dict (kvs.foldl (fun a p => put a p.1 p.2) [])])
    | none => none)
  | _, _ => none
theorem tupPairs_of {h α n} : ∀ {vs : List AV} {xs : List Value} {kvs : List (Int × AV)}, VRs h α n vs xs → pairsL vs = some kvs → ∃ ys, TupPairs h xs ys ∧ KR h α n kvs ys
  | _, _, _, .nil, e => by cases e; exact ⟨[], .nil, .nil⟩
  | _, _, _, .cons (v := v0) a r, e => by
    unfold pairsL at e
    split at e
    · rename_i e'; cases e'
    · rename_i m v' r' e'
      simp only [List.cons.injEq] at e'
      obtain ⟨rfl, rfl⟩ := e'
      obtain ⟨kvs', e1, rfl⟩ := map_some' e
      obtain ⟨ys, h1, h2⟩ := tupPairs_of r e1
      cases a with
      | tup e2 r2 =>
      cases r2 with
      | cons a1 r3 =>
      cases r3 with
      | cons a2 r4 =>
      cases r4
      cases a1
      exact ⟨_, .cons e2 h1, .cons a2 h2⟩
    · cases e
theorem KR.fold {h α n} : ∀ {kvs xs acc ys}, KR h α n kvs xs → KR h α n acc ys → KR h α n (kvs.foldl (fun a p => Inn.put a p.1 p.2) acc) (xs.foldl (fun a p => stored a p.1 p.2) ys)
  | _, _, _, _, .nil, r => r
  | _, _, _, _, .cons a q, r => q.fold (r.put a)
set_option tactic.hygienic true in
theorem op_dict (lv : Lvl k c.A) (cx : CxG G k c) (low : Low G) : OpN prog w c (fun xs => call (.type "dict") xs) bDict := by
  intro vs xs α ρ σ v σ' s Q E hm r hv q
  have hl := low _ (cx.here r)
  have hsz : s.heap.objs.size ≠ sysModules := fun e => absurd hl (by rw [← e]; exact Nat.lt_irrefl _)
  unfold bDict at hm
  split at hm
  · rename_i i
    cases hv with
    | cons hv hn =>
    cases hn
    cases hv with
    | ref hi =>
    split at hm
    · rename_i kvs e1
      cases hm
      obtain ⟨xs, hd, hk, hne, hl⟩ := r.dict e1
      refine kt_call_dict (knd := intKind prog w) (by simpa using hne) hd (le_sizeLine hl) fun h' hd' hs' => ?_
      have kk : HK s.heap h' := fun b o e => hs'.extBut b o (Nat.ne_of_lt (Heap.lt_size e)) (Heap.get?_push_of_some _ e)
      obtain ⟨α', g, v⟩ := grow_dict (prog := prog) (w := w) (σ := σ) (α := α) kk (get?_size_none _) hd' (hk.up ⟨Nat.le_refl _, fun _ _ => rfl, kk.vk⟩) hsz hl
      exact q _ α' _ s.toks g v
    · rename_i vs e1
      obtain ⟨kvs, e2, hm⟩ := map_some' hm
      cases hm
      obtain ⟨is, n1, g1, v1, l1⟩ := r.list e1
      obtain ⟨ys, tp, kr⟩ := tupPairs_of v1 e2
      refine callType_codes (Q₁ := fun obj s₁ => obj = .ref s.heap.objs.size ∧ s₁ = { s with heap := s.heap.push { cls := .type "dict", data := .dict #[] } }) F.kt_called_dict (F.kt_typeCall_dict_1 _) F.entry_dict_init (kt_code_dict_new _ ⟨rfl, rfl⟩) ?_
      rintro obj s₁ ⟨rfl, rfl⟩
      have hnew : (s.heap.push { cls := .type "dict", data := .dict #[] }).DictOf (intKind prog w) s.heap.objs.size [] := Heap.DictOf.new s.heap
      refine ⟨hnew.typeIs, F.args_dict_init_2 _ _, ?_⟩
      unfold Builtin.«dict.__init__»
      refine wpAny_bind ?_
      unfold Builtin.Dict.selfAndRest
      refine wpAny_bind (wpAny_notOrdered_dict hnew.typeIs ?_)
      show wpAny _ _ (pure (s.heap.objs.size, [Value.ref (α i)])) _ _ _
      refine wpAny_pure ?_
      show wpAny _ _ (Builtin.Dict.updateFrom "dict.__init__" s.heap.objs.size (.ref (α i)) [] .none) _ _ _
      unfold Builtin.Dict.updateFrom
      have g2 : (s.heap.push { cls := .type "dict", data := .dict #[] }).get? (α i) = some { cls := .type "list", data := .seq is.toArray n1 } := Heap.get?_push_of_some _ g1
      refine wpAny_bind (wpAny_typeOf (T := "list") ⟨_, g2, rfl⟩ ?_)
      rw [if_pos (by decide)]
      refine wpAny_bind (keys_miss g2 lv.1 fun h2 tk2 hk2 => ?_)
      simp only [Option.isNone_none, if_true]
      refine wpAny_bind (wpAny_rule ?_)
      have g3 := hk2 _ _ g2
      refine wpAny_bind (wpAny_pyIter_list (items := is.toArray) ⟨_, g3, rfl, _, rfl⟩ ?_)
      have hdlt : s.heap.objs.size < (s.heap.push { cls := .type "dict", data := .dict #[] }).objs.size := by rw [Heap.size_push]; exact Nat.lt_succ_self _
      have hdz : h2.get? s.heap.objs.size = some { cls := .type "dict", data := .dict #[] } := hk2 _ _ (Heap.get?_push_size _ rfl)
      refine wpAny_pure ⟨plainId_quiet plain_update_loop _, ?_⟩
      have kk1 : HK s.heap h2 := fun b o e => hk2 _ _ (Heap.get?_push_of_some _ e)
      have hli : α i ≠ h2.objs.size := Nat.ne_of_lt (Heap.lt_size g3)
      have hdi : s.heap.objs.size ≠ h2.objs.size := Nat.ne_of_lt (Heap.lt_size hdz)
      have hdl : s.heap.objs.size ≠ α i := Ne.symm (Nat.ne_of_lt (Heap.lt_size g1))
      have kp : HK h2 (h2.push { cls := .type "list_iterator", data := .fields #[.ref (α i), .int 0 0] }) := HK.push _ _
      refine update_loop (prog := prog) (w := w) (A := c.A.in1) (items := is) lv.1 hli hdl hdi l1 is ys [] [] { s with heap := h2.push { cls := .type "list_iterator", data := .fields #[.ref (α i), .int 0 0] }, toks := tk2 } rfl (tp.keeps fun b o e _ => kp _ _ (kk1 _ _ e)) ⟨_, Heap.get?_push_size _ rfl, rfl, rfl⟩ ⟨_, kp _ _ g3, rfl, _, rfl⟩ ?_ (Nat.le_refl _) fun h' tk hk' hd' hl' => ?_
      · obtain ⟨o, es, ep, ho, rr⟩ := hnew
        exact ⟨o, es, ep, kp _ _ (hk2 _ _ ho), rr⟩
      · have kk : HK s.heap h' := fun b o e => hk' b o (Nat.ne_of_lt (Heap.lt_size (kk1 _ _ e))) (Nat.ne_of_lt (Heap.lt_size e)) (kp _ _ (kk1 _ _ e))
        have krf : KR h' α σ.length (kvs.foldl (fun a p => put a p.1 p.2) []) (ys.foldl (fun a p => stored a p.1 p.2) []) := KR.fold (kr.up ⟨Nat.le_refl _, fun _ _ => rfl, kk.vk⟩) .nil
        obtain ⟨α', g, v⟩ := grow_dict (prog := prog) (w := w) (σ := σ) (α := α) kk (get?_size_none _) hd' krf hsz (by exact Nat.le_trans hl' l1)
        exact ⟨rfl, q _ α' _ tk g v⟩
    · cases hm
  · cases hm
end
end Inn
end
section
set_option maxRecDepth 10000
set_option linter.unusedVariables false
namespace Inn
open PySem
variable {prog : Program} {w : World}
section
variable {c : Cx} {G : Heap → Prop} {k : Nat}
end
end Inn
end
section
namespace Inn
section
variable {α : Type} (key : α → Int)
noncomputable def Le (p q : α) : Prop := key p ≤ key q
structure MI (all o ra rb : List α) : Prop where
  a : (o ++ ra).Pairwise (Le key)
  b : (o ++ rb).Pairwise (Le key)
  p : (o ++ (ra ++ rb)).Perm all
variable {key}
theorem MI.swap {all o ra rb : List α} (h : MI key all o ra rb) : MI key all o rb ra := ⟨h.b, h.a, (List.Perm.append_left o List.perm_append_comm).trans h.p⟩
theorem MI.left {all o c ra rb : List α} (h : MI key all o (c ++ ra) rb) (hc : ∀ x ∈ c, ∀ y ∈ rb, Le key x y) : MI key all (o ++ c) ra rb := by
  refine ⟨by simpa [List.append_assoc] using h.a, ?_, by simpa [List.append_assoc] using h.p⟩
  have h1 := h.a
  rw [← List.append_assoc] at h1
  refine List.pairwise_append.mpr ⟨(List.pairwise_append.mp h1).1, (List.pairwise_append.mp h.b).2.1, fun x hx y hy => ?_⟩
  rcases List.mem_append.mp hx with hx | hx
  · exact (List.pairwise_append.mp h.b).2.2 x hx y hy
  · exact hc x hx y hy
theorem MI.right {all o c ra rb : List α} (h : MI key all o ra (c ++ rb)) (hc : ∀ x ∈ c, ∀ y ∈ ra, Le key x y) : MI key all (o ++ c) ra rb := (h.swap.left hc).swap
noncomputable def Fin (all r : List α) : Prop := r.Pairwise (Le key) ∧ r.Perm all
theorem MI.endB {all o ra : List α} (h : MI key all o ra []) : Fin (key := key) all (o ++ ra) := ⟨h.a, by simpa using h.p⟩
theorem MI.endA {all o rb : List α} (h : MI key all o [] rb) : Fin (key := key) all (o ++ rb) := ⟨h.b, by simpa using h.p⟩
theorem MI.last {all o ra rb : List α} (h : MI key all o ra rb) (hc : ∀ x ∈ rb, ∀ y ∈ ra, Le key x y) : Fin (key := key) all (o ++ rb ++ ra) := by
  have h' : MI key all o ra (rb ++ []) := by simpa using h
  exact (h'.right hc).endB
theorem Fin.rev {all o : List α} (h : Fin (key := fun x => - key x) all o) : Fin (key := key) all o.reverse := by
  refine ⟨?_, (List.reverse_perm _).trans h.2⟩
  rw [List.pairwise_reverse]
  exact h.1.imp fun {a b} h => by have h' : -key a ≤ -key b := h; show key b ≤ key a; exact Int.le_of_neg_le_neg h'
theorem drop_cons {a : Array α} {i : Nat} (h : i < a.size) : a.toList.drop i = a[i] :: a.toList.drop (i + 1) := by
  rw [List.drop_eq_getElem_cons (by simpa using h)]; simp
theorem drop_cut (a : Array α) (i k : Nat) : a.toList.drop i = (a.extract i (i + k)).toList ++ a.toList.drop (i + k) := by
  simp [Array.toList_extract, List.extract_eq_take_drop, ← List.drop_drop, List.take_append_drop]
theorem take_cut (a : Array α) {i k : Nat} (h : i ≤ k) : (a.toList.take k).reverse = (a.extract i k).reverse.toList ++ (a.toList.take i).reverse := by
  rw [Array.toList_reverse, ← List.reverse_append, Array.toList_extract, List.extract_eq_take_drop]
  congr 1
  conv => lhs; rw [← List.take_append_drop i (a.toList.take k)]
  rw [List.take_take, List.drop_take, Nat.min_eq_left h]
theorem mem_drop {a : Array α} {i : Nat} {x : α} (h : x ∈ a.toList.drop i) : ∃ j, ∃ hj : j < a.size, i ≤ j ∧ x = a[j] := by
  obtain ⟨n, hn, rfl⟩ := List.mem_iff_getElem.mp h
  simp at hn
  exact ⟨i + n, by exact Nat.add_lt_of_lt_sub' hn, by exact ar_50, by simp⟩
theorem mem_ext {a : Array α} {i k : Nat} {x : α} (h : x ∈ (a.extract i k).toList) : ∃ j, ∃ hj : j < a.size, i ≤ j ∧ j < k ∧ x = a[j] := by
  obtain ⟨n, hn, rfl⟩ := List.mem_iff_getElem.mp h
  rw [Array.length_toList, Array.size_extract] at hn
  have h1 : i + n < min k a.size := Nat.add_lt_of_lt_sub' hn
  exact ⟨i + n, Nat.lt_of_lt_of_le h1 (Nat.min_le_right _ _), Nat.le_add_right _ _, Nat.lt_of_lt_of_le h1 (Nat.min_le_left _ _), by simp⟩
theorem mem_take {a : Array α} {k : Nat} {x : α} (h : x ∈ a.toList.take k) : ∃ j, ∃ hj : j < a.size, j < k ∧ x = a[j] := by
  obtain ⟨n, hn, rfl⟩ := List.mem_iff_getElem.mp h
  simp at hn
  exact ⟨n, by exact ar_51 hn, by exact ar_52 hn, by simp⟩
noncomputable def Up2 (key : α → Int) (a : Array α) : Prop := ∀ i j (hi : i < a.size) (hj : j < a.size), i ≤ j → key a[i] ≤ key a[j]
theorem Up2.list {a : Array α} (h : Up2 key a) : a.toList.Pairwise (Le key) := by
  rw [List.pairwise_iff_getElem]
  intro i j hi hj hij
  simp at hi hj
  simpa [Le] using h i j hi hj (Nat.le_of_lt hij)
theorem Up2.rlist {a : Array α} (h : Up2 key a) : a.toList.reverse.Pairwise (Le fun x => - key x) := by
  rw [List.pairwise_reverse]
  exact h.list.imp fun {a b} h => by have h' : key a ≤ key b := h; show -key b ≤ -key a; exact Int.neg_le_neg h'
theorem write_back (sa : Nat) : ∀ (l : List α) (j : Nat) (a : Array α), sa + j + l.length ≤ a.size →
    ((l.zipIdx j).foldl (fun a (p : α × Nat) => a.setIfInBounds (sa + p.2) p.1) a).toList = a.toList.take (sa + j) ++ l ++ a.toList.drop (sa + j + l.length)
  | [], j, a, h => by simp
  | x :: l, j, a, h => by
    simp only [List.zipIdx_cons, List.foldl_cons]
    simp only [List.length_cons] at h
    rw [write_back sa l (j + 1) _ (by simp; exact ar_54 h)]
    have h1 : sa + j < a.toList.length := by simp; exact Nat.lt_of_add_right_lt h
    rw [Array.toList_setIfInBounds, List.take_set, List.drop_set_of_lt (by exact ar_56)]
    rw [show sa + (j + 1) = sa + j + 1 by exact ar_57, List.take_succ_eq_append_getElem h1]
    have h2 : (a.toList.take (sa + j)).length = sa + j := by rw [List.length_take]; exact ar_58 h1
    rw [List.set_append_right _ _ (by exact ar_59 h2), h2, Nat.sub_self, List.set_cons_zero, List.length_cons, show sa + j + 1 + l.length = sa + j + (l.length + 1) by exact ar_60]
    simp
end
end Inn
end
section
set_option maxRecDepth 10000
set_option linter.unusedVariables false
namespace Inn
open PySem PyProof.Rows
noncomputable def galX : Bool → Keyed → Array Keyed → Nat → Nat → Nat → StateT SortSt Sem (Option Nat) := sortPriv% PySem.Builtin.gallop
noncomputable def IK (p : Keyed) : Prop := ∃ n t, p.1 = .int n t
noncomputable def ky (p : Keyed) : Int := match p.1 with | .int n _ => n | _ => 0
section
variable {prog : Program} {w : World} {A : Around} {E : Value → Shared → Prop} {s : Shared}
theorem wpS_elX {arr : Array Keyed} {i : Nat} {st : SortSt} {Q : Keyed → SortSt → Prop} (hi : i < arr.size) (h : Q arr[i] st) : wpS (model prog w) A E s (elem' arr i) Q st := by
  rw [elem'_eq, getElem?_pos arr i hi]; exact wpS_pure h
theorem wpS_ltX {p q : Keyed} {st : SortSt} {Q : Option Bool → SortSt → Prop} (hk : kindOf st = oneType') (hp : IK p) (hq : IK q) (h : Q (some (decide (ky p < ky q))) st) :
    wpS (model prog w) A E s (lt' p q) Q st := by
  obtain ⟨⟨_, p⟩, rfl⟩ : ∃ x, p = x := ⟨p, rfl⟩
  obtain ⟨⟨_, q⟩, rfl⟩ : ∃ x, q = x := ⟨q, rfl⟩
  obtain ⟨a, t, e1⟩ := hp
  obtain ⟨b, u, e2⟩ := hq
  cases e1; cases e2
  rw [lt'_eq]
  refine wpS_bind (wpS_get ?_)
  rw [hk, keyLt'_oneType]
  exact wpS_bind (wpS_lift (wpAny_attempt (oneLt_int ⟨rfl, wpS_pure h⟩)))
noncomputable def beyX (left : Bool) (key : Keyed) (arr : Array Keyed) (at_ : Nat) : StateT SortSt Sem (Option Bool) := do
  let x ← elem' arr at_
  if left then lt' x key else return (← lt' key x).map (!·)
noncomputable def past (left : Bool) (key : Keyed) (arr : Array Keyed) (i : Nat) : Bool := match arr[i]? with
  | some x => if left then decide (ky x < ky key) else !decide (ky key < ky x)
  | none => false
theorem wpS_beyX {left : Bool} {key : Keyed} {arr : Array Keyed} {i : Nat} {st : SortSt} {Q : Option Bool → SortSt → Prop} (hk : kindOf st = oneType') (hkey : IK key) (harr : ∀ i (h : i < arr.size), IK arr[i]) (hi : i < arr.size)
    (h : Q (some (past left key arr i)) st) : wpS (model prog w) A E s (beyX left key arr i) Q st := by
  unfold beyX
  unfold past at h
  rw [getElem?_pos arr _ hi] at h
  refine wpS_bind (wpS_elX hi ?_)
  cases left with
  | true => exact wpS_ltX hk (harr _ hi) hkey h
  | false => exact wpS_bind (wpS_ltX hk hkey (harr _ hi) (wpS_pure h))
theorem g_a {hint l o n : Nat} (h1 : l < o) (h2 : l < n - hint) : hint + l + 1 ≤ hint + min o (n - hint) := Nat.add_le_add_left (Nat.le_min.mpr ⟨h1, h2⟩) _
theorem g_b {hint o n : Nat} (hh : hint < n) : hint + min o (n - hint) ≤ n := Nat.le_trans (Nat.add_le_add_left (Nat.min_le_right _ _) _) (Nat.le_of_eq (Nat.add_sub_cancel' (Nat.le_of_lt hh)))
theorem g_d {hint o n i : Nat} (hi : hint + min o (n - hint) ≤ i) (hin : i < n) (hh : hint < n) : o < n - hint ∧ hint + o ≤ i := by
  rcases Nat.lt_or_ge o (n - hint) with g | g
  · rw [Nat.min_eq_left (Nat.le_of_lt g)] at hi; exact ⟨g, hi⟩
  · rw [Nat.min_eq_right g, Nat.add_sub_cancel' (Nat.le_of_lt hh)] at hi; exact absurd hin (Nat.not_lt.mpr hi)
theorem g_e {hint l o : Nat} (h1 : l < o) (h2 : l ≤ hint) : hint + 1 - min o (hint + 1) ≤ hint - l :=
  Nat.le_trans (Nat.sub_le_sub_left (Nat.le_min.mpr ⟨h1, Nat.succ_le_succ h2⟩) _) (Nat.le_of_eq (Nat.add_sub_add_right _ _ _))
theorem g_g {hint o i : Nat} (hi : i < hint + 1 - min o (hint + 1)) : o ≤ hint ∧ i ≤ hint - o := by
  rcases Nat.lt_or_ge o (hint + 1) with g | g
  · rw [Nat.min_eq_left (Nat.le_of_lt g)] at hi; exact ⟨Nat.le_of_lt_succ g, Nat.le_sub_of_add_le (Nat.le_of_lt_succ (Nat.add_lt_of_lt_sub hi))⟩
  · rw [Nat.min_eq_right g, Nat.sub_self] at hi; exact absurd hi (Nat.not_lt_zero _)
theorem wpS_galX {left : Bool} {key : Keyed} {arr : Array Keyed} {base n hint : Nat} {st : SortSt} {Q : Option Nat → SortSt → Prop} (hk : kindOf st = oneType') (hkey : IK key) (harr : ∀ i (h : i < arr.size), IK arr[i])
    (hb : base + n ≤ arr.size) (hh : hint < n) (hm : ∀ i j, i ≤ j → j < n → past left key arr (base + j) = true → past left key arr (base + i) = true)
    (h : ∀ k, k ≤ n → (∀ i, i < k → past left key arr (base + i) = true) → (∀ i, k ≤ i → i < n → past left key arr (base + i) = false) → Q (some k) st) :
    wpS (model prog w) A E s (galX left key arr base n hint) Q st := by
  have bey : ∀ i (Q' : Option Bool → SortSt → Prop), i < n → Q' (some (past left key arr (base + i))) st → wpS (model prog w) A E s (beyX left key arr (base + i)) Q' st :=
    fun i Q' hi hq => wpS_beyX hk hkey harr (by exact Nat.lt_of_lt_of_le (Nat.add_lt_add_left hi _) hb) hq
  generalize hP : (fun i => past left key arr (base + i)) = P at *
  have hP' : ∀ i, past left key arr (base + i) = P i := fun i => by rw [← hP]
  simp only [hP'] at *
  refine wpS_bind (bey hint _ hh ?_)
  dsimp -zeta -zetaHave only
  extract_lets jp
  have J : ∀ a b lo hi, lo ≤ hi → hi ≤ n → (∀ i, i < lo → P i = true) → (∀ i, hi ≤ i → i < n → P i = false) → wpS (model prog w) A E s (jp () a b lo hi) Q st := by
    intro a b lo hi h1 h2 h3 h4
    refine wpS_bind (wpS_mono (wpS_forRange (I := fun x c st' => st' = st ∧ ∃ lo hi, c = (none, lo, hi) ∧ lo ≤ hi ∧ hi ≤ n ∧ hi + x ≤ lo + n ∧ (∀ i, i < lo → P i = true) ∧ (∀ i, hi ≤ i → i < n → P i = false))
      (Q := fun c st' => st' = st ∧ ∃ lo hi, c = (none, lo, hi) ∧ lo = hi ∧ hi ≤ n ∧ (∀ i, i < lo → P i = true) ∧ (∀ i, hi ≤ i → i < n → P i = false)) ?_ ?_ ⟨rfl, lo, hi, rfl, h1, h2, by exact Nat.le_add_left_of_le h2, h3, h4⟩) ?_)
    · rintro x c st' _ hx ⟨rfl, lo, hi, rfl, h1, h2, hn, h3, h4⟩
      dsimp only
      by_cases hge : lo ≥ hi
      · rw [if_pos hge]
        exact wpS_pure ⟨rfl, lo, hi, rfl, by exact Nat.le_antisymm h1 hge, h2, h3, h4⟩
      · rw [if_neg hge]
        obtain ⟨mm, em⟩ : ∃ mm, mm = lo + (hi - lo) / 2 := ⟨_, rfl⟩
        have hm1 : lo ≤ mm := em ▸ Nat.le_add_right _ _
        have hm2 : mm < hi := by exact ar_64 em hge
        rw [← em]
        clear em
        refine wpS_bind (bey mm _ (by exact Nat.lt_of_lt_of_le hm2 h2) ?_)
        dsimp only
        cases hp : P mm with
        | true =>
          rw [if_pos rfl]
          exact wpS_pure ⟨rfl, _, _, rfl, hm2, h2, by exact ar_66 hn hm1, fun i hi => hm i mm (Nat.le_of_lt_succ hi) (by exact Nat.lt_of_lt_of_le hm2 h2) hp, h4⟩
        | false =>
          rw [if_neg (by simp)]
          refine wpS_pure ⟨rfl, _, _, rfl, hm1, by exact Nat.le_trans (Nat.le_of_lt hm2) h2, by exact ar_68 hn hm2, h3, fun i hi hin => ?_⟩
          cases hq : P i with
          | false => rfl
          | true => rw [hm _ _ hi hin hq] at hp; cases hp
    · rintro c st' ⟨rfl, lo, hi, rfl, h1, h2, hn, h3, h4⟩
      exact ⟨rfl, lo, hi, rfl, by exact ar_69 hn h1, h2, h3, h4⟩
    · rintro c st' ⟨rfl, lo, hi, rfl, rfl, h2, h3, h4⟩
      exact wpS_pure (h lo h2 h3 h4)
  clear_value jp
  cases hp : P hint with
  | true =>
    rw [if_pos rfl]
    refine wpS_bind (wpS_mono (wpS_forRange (I := fun x c st' => st' = st ∧ ∃ l o, c = (none, l, o) ∧ l < o ∧ l < n - hint ∧ x < o ∧ P (hint + l) = true)
      (Q := fun c st' => st' = st ∧ ∃ l o, c = (none, l, o) ∧ l < o ∧ l < n - hint ∧ P (hint + l) = true ∧ (n - hint ≤ o ∨ P (hint + o) = false)) ?_ ?_ ⟨rfl, 0, 1, rfl, by exact Nat.one_pos, by exact Nat.zero_lt_sub_of_lt hh, by exact Nat.one_pos, hp⟩) ?_)
    · rintro x c st' _ hx ⟨rfl, l, o, rfl, h1, h2, hn, h3⟩
      dsimp only
      by_cases hge : o ≥ n - hint
      · rw [if_pos hge]
        exact wpS_pure ⟨rfl, l, o, rfl, h1, h2, h3, .inl hge⟩
      · rw [if_neg hge]
        refine wpS_bind (bey _ _ (by exact Nat.add_lt_of_lt_sub' (Nat.not_le.mp hge)) ?_)
        dsimp only
        cases hq : P (hint + o) with
        | true => exact wpS_pure ⟨rfl, _, _, rfl, by exact ar_73, by exact Nat.lt_of_not_le hge, by exact ar_75 hn, hq⟩
        | false => exact wpS_pure ⟨rfl, l, o, rfl, h1, h2, h3, .inr hq⟩
    · rintro c st' ⟨rfl, l, o, rfl, h1, h2, hn, h3⟩
      exact ⟨rfl, l, o, rfl, h1, h2, h3, .inl (by exact Nat.le_trans (Nat.sub_le _ _) (Nat.le_of_lt hn))⟩
    · rintro c st' ⟨rfl, l, o, rfl, h1, h2, h3, h4⟩
      dsimp only
      refine J _ _ _ _ (g_a h1 h2) (g_b hh) (fun i hi => hm i _ (Nat.le_of_lt_succ hi) (Nat.add_lt_of_lt_sub' h2) h3) fun i hi hin => ?_
      have hg := g_d hi hin hh
      rcases h4 with h4 | h4
      · exact absurd hg.1 (Nat.not_lt.mpr h4)
      · cases hq : P i with
        | false => rfl
        | true => rw [hm (hint + o) _ hg.2 hin hq] at h4; cases h4
  | false =>
    rw [if_neg (by simp)]
    refine wpS_bind (wpS_mono (wpS_forRange (I := fun x c st' => st' = st ∧ ∃ l o, c = (none, l, o) ∧ l < o ∧ l ≤ hint ∧ x < o ∧ P (hint - l) = false)
      (Q := fun c st' => st' = st ∧ ∃ l o, c = (none, l, o) ∧ l < o ∧ l ≤ hint ∧ P (hint - l) = false ∧ (hint < o ∨ P (hint - o) = true)) ?_ ?_ ⟨rfl, 0, 1, rfl, by exact Nat.one_pos, by exact ar_77, by exact Nat.one_pos, hp⟩) ?_)
    · rintro x c st' _ hx ⟨rfl, l, o, rfl, h1, h2, hn, h3⟩
      dsimp only
      by_cases hge : o ≥ hint + 1
      · rw [if_pos hge]
        exact wpS_pure ⟨rfl, l, o, rfl, h1, h2, h3, .inl hge⟩
      · rw [if_neg hge]
        refine wpS_bind (bey _ _ (by exact Nat.sub_lt_of_lt hh) ?_)
        dsimp only
        cases hq : P (hint - o) with
        | true => exact wpS_pure ⟨rfl, l, o, rfl, h1, h2, h3, .inr hq⟩
        | false => exact wpS_pure ⟨rfl, _, _, rfl, by exact ar_73, by exact ar_79 hge, by exact ar_75 hn, hq⟩
    · rintro c st' ⟨rfl, l, o, rfl, h1, h2, hn, h3⟩
      exact ⟨rfl, l, o, rfl, h1, h2, h3, .inl (by exact Nat.lt_trans hh hn)⟩
    · rintro c st' ⟨rfl, l, o, rfl, h1, h2, h3, h4⟩
      dsimp only
      refine J _ _ _ _ (g_e h1 h2) (Nat.le_trans (Nat.sub_le _ _) (Nat.le_of_lt hh)) (fun i hi => ?_) fun i hi hin => ?_
      · have hg := g_g hi
        rcases h4 with h4 | h4
        · exact absurd hg.1 (Nat.not_le.mpr h4)
        · exact hm i _ hg.2 (Nat.sub_lt_of_lt hh) h4
      · cases hq : P i with
        | false => rfl
        | true => rw [hm (hint - l) _ hi hin hq] at h3; cases h3
end
end Inn
end
section
set_option maxRecDepth 10000
set_option linter.unusedVariables false
namespace Inn
open PySem PyProof.Rows
noncomputable def loX : Array Keyed → Array Keyed → StateT SortSt Sem (Array Keyed) := sortPriv% PySem.Builtin.mergeLo
noncomputable def ML (a b out : Array Keyed) (ia ib : Nat) : Prop := MI ky (a.toList ++ b.toList) out.toList (a.toList.drop ia) (b.toList.drop ib)
noncomputable def MF (a b r : Array Keyed) : Prop := Fin (key := ky) (a.toList ++ b.toList) r.toList
section
variable {a b out : Array Keyed} {ia ib : Nat}
theorem ML.pushA (h : ML a b out ia ib) (sb : Up2 ky b) (hA : ia < a.size) (hB : ib < b.size) (hl : ky a[ia] ≤ ky b[ib]) : ML a b (out.push a[ia]) (ia + 1) ib := by
  unfold ML at *
  rw [drop_cons hA] at h
  have := MI.left (c := [a[ia]]) h fun x hx y hy => by
    obtain ⟨j, hj, hij, rfl⟩ := mem_drop hy
    simp at hx; subst hx
    exact Int.le_trans hl (sb _ _ hB hj hij)
  simpa using this
theorem ML.pushB (h : ML a b out ia ib) (sa : Up2 ky a) (hA : ia < a.size) (hB : ib < b.size) (hl : ky b[ib] ≤ ky a[ia]) : ML a b (out.push b[ib]) ia (ib + 1) := by
  unfold ML at *
  rw [drop_cons hB] at h
  have := MI.right (c := [b[ib]]) h fun x hx y hy => by
    obtain ⟨j, hj, hij, rfl⟩ := mem_drop hy
    simp at hx; subst hx
    exact Int.le_trans hl (sa _ _ hA hj hij)
  simpa using this
theorem past_false {key : Keyed} {i : Nat} (hi : i < a.size) : past false key a i = true ↔ ky a[i] ≤ ky key := by
  unfold past; rw [getElem?_pos a i hi]; simp
theorem past_true {key : Keyed} {i : Nat} (hi : i < a.size) : past true key a i = true ↔ ky a[i] < ky key := by
  unfold past; rw [getElem?_pos a i hi]; simp
theorem ML.chunkA {k : Nat} (h : ML a b out ia ib) (sb : Up2 ky b) (hB : ib < b.size) (hk : ∀ i, i < k → past false b[ib] a (ia + i) = true) : ML a b (out ++ a.extract ia (ia + k)) (ia + k) ib := by
  unfold ML at *
  rw [drop_cut a ia k] at h
  rw [Array.toList_append]
  refine h.left fun x hx y hy => ?_
  obtain ⟨j, hj, hij, rfl⟩ := mem_drop hy
  obtain ⟨i, hi, h1, h2, rfl⟩ := mem_ext hx
  have := hk (i - ia) (by exact Nat.sub_lt_left_of_lt_add h1 h2)
  rw [show ia + (i - ia) = i by exact Nat.add_sub_of_le h1, past_false hi] at this
  exact Int.le_trans this (sb _ _ hB hj hij)
theorem ML.chunkB {k : Nat} (h : ML a b out ia ib) (sa : Up2 ky a) (hA : ia < a.size) (hk : ∀ i, i < k → past true a[ia] b (ib + i) = true) : ML a b (out ++ b.extract ib (ib + k)) ia (ib + k) := by
  unfold ML at *
  rw [drop_cut b ib k] at h
  rw [Array.toList_append]
  refine h.right fun x hx y hy => ?_
  obtain ⟨j, hj, hij, rfl⟩ := mem_drop hy
  obtain ⟨i, hi, h1, h2, rfl⟩ := mem_ext hx
  have := hk (i - ib) (by exact Nat.sub_lt_left_of_lt_add h1 h2)
  rw [show ib + (i - ib) = i by exact Nat.add_sub_of_le h1, past_true hi] at this
  exact Int.le_trans (Int.le_of_lt this) (sa _ _ hA hj hij)
theorem ext_end (a : Array Keyed) (i : Nat) : (a.extract i a.size).toList = a.toList.drop i := by
  simp only [Array.toList_extract, List.extract_eq_take_drop]
  exact List.take_of_length_le (by simp)
theorem ML.doneB (h : ML a b out ia ib) (e : ib = b.size) : MF a b (out ++ a.extract ia ++ b.extract ib) := by
  subst e
  unfold ML at h; unfold MF
  rw [List.drop_eq_nil_of_le (as := b.toList) (by simp)] at h
  simp only [Array.toList_append, ext_end, List.drop_eq_nil_of_le (as := b.toList) (i := b.size) (by simp), List.append_nil]
  exact h.endB
theorem ML.doneA (h : ML a b out ia ib) (e : ia = a.size) : MF a b (out ++ a.extract ia ++ b.extract ib) := by
  subst e
  unfold ML at h; unfold MF
  rw [List.drop_eq_nil_of_le (as := a.toList) (by simp)] at h
  simp only [Array.toList_append, ext_end, List.drop_eq_nil_of_le (as := a.toList) (i := a.size) (by simp), List.append_nil]
  exact h.endA
theorem ML.lastA (h : ML a b out ia ib) (sb : Up2 ky b) (na : 0 < a.size) (nb : 0 < b.size) (h2 : ky b[b.size - 1] ≤ ky a[a.size - 1]) (e : ia + 1 = a.size) : MF a b (out ++ b.extract ib ++ a.extract ia) := by
  have := MI.last h fun x hx y hy => by
    obtain ⟨i, hi, h3, rfl⟩ := mem_drop hx
    obtain ⟨j, hj, h4, rfl⟩ := mem_drop hy
    have e2 : j = a.size - 1 := by exact ar_83 e hj h4
    subst e2
    exact Int.le_trans (sb _ _ hi (by exact Nat.sub_one_lt_of_lt nb) (by exact Nat.le_sub_one_of_lt hi)) h2
  unfold MF
  simp only [Array.toList_append, ext_end]
  exact this
end
noncomputable def LI (a b : Array Keyed) (r : Option (Array Keyed)) (out : Array Keyed) (ia ib N : Nat) : Prop := match r with
  | some r => MF a b r
  | none => ML a b out ia ib ∧ ia + 1 < a.size ∧ ib < b.size ∧ N ≤ ia + ib
noncomputable def Near (st st' : SortSt) : Prop := ∃ g, st' = SortSt.mk' (kindOf st) (arrOf st) (pendingOf st) g (failedOf st)
abbrev GC := Option (Array Keyed) × Array Keyed × Nat × Nat × Nat × Nat × Nat
noncomputable def StepL (st : SortSt) (a b : Array Keyed) (N : Nat) : ForInStep GC → SortSt → Prop
  | .done c, st' => Near st st' ∧ LI a b c.1 c.2.1 c.2.2.1 c.2.2.2.1 N
  | .yield c, st' => Near st st' ∧ c.1 = none ∧ LI a b none c.2.1 c.2.2.1 c.2.2.2.1 N
section
variable {prog : Program} {w : World} {A : Around} {E : Value → Shared → Prop} {s : Shared}
theorem wpS_ite {σ α : Type} {M : Model} {c : Prop} [Decidable c] {m m' : StateT σ Sem α} {Q : α → σ → Prop} {st : σ} (h1 : c → wpS M A E s m Q st) (h2 : ¬ c → wpS M A E s m' Q st) : wpS M A E s (if c then m else m') Q st := by
  split
  · exact h1 ‹_›
  · exact h2 ‹_›
theorem wpS_loX {a b : Array Keyed} {st : SortSt} {Q : Array Keyed → SortSt → Prop} (hk : kindOf st = oneType') (ha : ∀ i (h : i < a.size), IK a[i]) (hb : ∀ i (h : i < b.size), IK b[i])
    (sa : Up2 ky a) (sb : Up2 ky b) (na : 0 < a.size) (nb : 0 < b.size) (h1 : ky b[0] ≤ ky a[0]) (h2 : ky b[b.size - 1] ≤ ky a[a.size - 1])
    (h : ∀ r st', Near st st' → MF a b r → Q r st') : wpS (model prog w) A E s (loX a b) Q st := by
  have near0 : Near st st := ⟨gallopOf st, rfl⟩
  have m0 : ML a b #[] 0 0 := by
    unfold ML
    exact ⟨by simpa using sa.list, by simpa using sb.list, by simp⟩
  have m1 : ML a b #[b[0]] 0 1 := by simpa using m0.pushB sa na nb h1
  refine wpS_bind (wpS_lift (wpAny_rule ⟨rfl, ?_⟩))
  refine wpS_bind (wpS_elX nb ?_)
  refine wpS_ite (fun e => ?_) fun e1 => ?_
  · exact wpS_pure (h _ _ near0 (m1.doneB (eq_of_beq e)))
  refine wpS_ite (fun e => ?_) fun e2 => ?_
  · exact wpS_pure (h _ _ near0 (m1.lastA sb na nb h2 (eq_of_beq e)))
  replace e1 : 1 ≠ b.size := fun e => e1 (beq_iff_eq.mpr e)
  replace e2 : 1 ≠ a.size := fun e => e2 (beq_iff_eq.mpr e)
  refine wpS_bind (wpS_get ?_)
  refine wpS_bind (wpS_mono (wpS_forRange (I := fun x (c : Option (Array Keyed) × Array Keyed × Nat × Nat × Nat) st' => Near st st' ∧ c.1 = none ∧ LI a b none c.2.1 c.2.2.1 c.2.2.2.1 (x + 1))
    (Q := fun c st' => Near st st' ∧ ∃ r, c.1 = some r ∧ MF a b r) ?step ?fin ⟨near0, rfl, m1, (by exact Nat.lt_of_le_of_ne na e2 : 0 + 1 < a.size), (by exact Nat.lt_of_le_of_ne nb e1 : 1 < b.size), (by exact ar_88 : 0 + 1 ≤ 0 + 1)⟩) ?post)
  case post =>
    rintro ⟨_, c⟩ st' ⟨hn, r, rfl, hr⟩
    exact wpS_pure (h _ _ hn hr)
  case fin =>
    rintro ⟨_, out, ia, ib, g⟩ st' ⟨hn, rfl, _, h3, h4, h5⟩
    replace h3 : ia + 1 < a.size := h3
    replace h4 : ib < b.size := h4
    replace h5 : max 0 (a.size + b.size) + 1 ≤ ia + ib := h5
    omega
  case step =>
  rintro x ⟨_, out, ia, ib, g⟩ st' _ hx ⟨hn, rfl, hL⟩
  refine wpS_bind (wpS_mono (wpS_forRange (I := fun y (c : Option (Array Keyed) × Array Keyed × Nat × Nat × Nat × Nat) st' => Near st st' ∧ c.1 = none ∧ LI a b none c.2.1 c.2.2.1 c.2.2.2.1 (x + 1 + y))
    (Q := fun c st' => Near st st' ∧ LI a b c.1 c.2.1 c.2.2.1 c.2.2.2.1 (x + 2)) ?step1 ?fin1 ⟨hn, rfl, hL⟩) ?post1)
  case fin1 =>
    rintro ⟨_, out, ia, ib, ac, bc⟩ st' ⟨hn, rfl, h3, h4, h5, h6⟩
    replace h6 : x + 1 + max 0 (a.size + b.size) ≤ ia + ib := h6
    exact ⟨hn, h3, h4, h5, (by exact ar_89 h6 na : x + 2 ≤ ia + ib)⟩
  case step1 =>
    rintro y ⟨_, out, ia, ib, ac, bc⟩ st' _ hy ⟨hn, rfl, h3, h4, h5, h6⟩
    replace h3 : ML a b out ia ib := h3
    replace h4 : ia + 1 < a.size := h4
    replace h5 : ib < b.size := h5
    replace h6 : x + 1 + y ≤ ia + ib := h6
    have hk' : kindOf st' = oneType' := by obtain ⟨g, rfl⟩ := hn; exact hk
    refine wpS_bind (wpS_elX h5 (wpS_bind (wpS_elX (show ia < a.size by exact Nat.le_of_lt h4) (wpS_bind (wpS_ltX hk' (hb _ _) (ha _ _) ?_)))))
    refine wpS_ite (fun hlt => ?_) fun hlt => ?_
    · replace hlt : ky b[ib] < ky a[ia] := of_decide_eq_true hlt
      refine wpS_bind (wpS_elX h5 ?_)
      have m := h3.pushB sa (by exact Nat.le_of_lt h4) h5 (Int.le_of_lt hlt)
      refine wpS_ite (fun e => ?_) fun e => ?_
      · exact wpS_pure ⟨hn, m.doneB (eq_of_beq e)⟩
      · replace e : ib + 1 ≠ b.size := fun e' => e (beq_iff_eq.mpr e')
        have f1 : ib + 1 < b.size := by exact Nat.lt_of_le_of_ne h5 e
        have f2 : x + 1 + (y + 1) ≤ ia + (ib + 1) := by exact ar_92 h6
        exact wpS_ite (fun _ => wpS_pure ⟨hn, m, h4, f1, Nat.le_trans (by exact ar_93) f2⟩) fun _ => wpS_pure ⟨hn, rfl, m, h4, f1, f2⟩
    · replace hlt : ¬ ky b[ib] < ky a[ia] := fun e => hlt (decide_eq_true e)
      refine wpS_bind (wpS_elX (show ia < a.size by exact Nat.le_of_lt h4) ?_)
      have m := h3.pushA sb (by exact Nat.le_of_lt h4) h5 (Int.not_lt.mp hlt)
      refine wpS_ite (fun e => ?_) fun e => ?_
      · exact wpS_pure ⟨hn, m.lastA sb na nb h2 (eq_of_beq e)⟩
      · replace e : ia + 1 + 1 ≠ a.size := fun e' => e (beq_iff_eq.mpr e')
        have f1 : ia + 1 + 1 < a.size := by exact Nat.lt_of_le_of_ne h4 e
        have f2 : x + 1 + (y + 1) ≤ ia + 1 + ib := by exact ar_95 h6
        exact wpS_ite (fun _ => wpS_pure ⟨hn, m, f1, h5, Nat.le_trans (by exact ar_93) f2⟩) fun _ => wpS_pure ⟨hn, rfl, m, f1, h5, f2⟩
  case post1 =>
  rintro ⟨r, out, ia, ib, ac, bc⟩ st' ⟨hn, hL⟩
  cases r with
  | some r => exact wpS_pure ⟨hn, r, rfl, hL⟩
  | none =>
  refine wpS_bind (wpS_lift (wpAny_rule ⟨rfl, ?_⟩))
  refine wpS_bind (wpS_mono (wpS_forRange (I := fun y (c : GC) st' => Near st st' ∧ c.1 = none ∧ LI a b none c.2.1 c.2.2.1 c.2.2.2.1 (x + 2))
    (Q := fun (c : GC) st' => Near st st' ∧ LI a b c.1 c.2.1 c.2.2.1 c.2.2.2.1 (x + 2)) ?step2 ?fin2 ⟨hn, rfl, hL⟩) ?post2)
  case fin2 =>
    rintro ⟨_, c⟩ st' ⟨hn, rfl, hL⟩
    exact ⟨hn, hL⟩
  case post2 =>
    rintro ⟨r, out, ia, ib, g, ac, bc⟩ st' ⟨hn, hL⟩
    cases r with
    | some r => exact wpS_pure ⟨hn, r, rfl, hL⟩
    | none =>
      obtain ⟨g0, rfl⟩ := hn
      exact wpS_bind (wpS_modify (wpS_pure ⟨⟨_, rfl⟩, rfl, hL⟩))
  case step2 =>
  rintro y ⟨_, out, ia, ib, g, ac, bc⟩ st' _ hy ⟨⟨g0, rfl⟩, rfl, h3, h4, h5, h6⟩
  replace h3 : ML a b out ia ib := h3
  replace h4 : ia + 1 < a.size := h4
  replace h5 : ib < b.size := h5
  replace h6 : x + 2 ≤ ia + ib := h6
  refine wpS_mono (Q := StepL st a b (x + 2)) ?_ (fun r st' h => by cases r <;> exact h)
  extract_lets -underBinder q1 q2 q3 q4 q5 q6 q7 q8 q9 q10 q11 jp
  have J1 : ∀ g', wpS (model prog w) A E s (jp () g') (StepL st a b (x + 2)) (SortSt.mk' (kindOf st) (arrOf st) (pendingOf st) g0 (failedOf st)) := by
    intro g1
    refine wpS_bind (wpS_modify ?_)
    have near1 : Near st (SortSt.mk' (kindOf st) (arrOf st) (pendingOf st) g1 (failedOf st)) := ⟨_, rfl⟩
    refine wpS_bind (wpS_elX h5 ?_)
    refine wpS_bind (wpS_galX hk (hb _ _) ha (by show ia + (a.size - ia) ≤ _; exact ar_96 h4) (by show 0 < a.size - ia; exact Nat.sub_pos_of_lt (Nat.le_of_lt h4)) (fun i j hij hj hp => ?_) fun k hk1 hk2 hk3 => ?_)
    · have hj0 : j < a.size - ia := hj
      have hj' : ia + j < a.size := by exact Nat.add_lt_of_lt_sub' hj0
      have hi' : ia + i < a.size := by exact Nat.add_lt_of_lt_sub' (Nat.lt_of_le_of_lt hij hj0)
      exact (past_false hi').mpr (Int.le_trans (sa _ _ hi' hj' (by exact Nat.add_le_add_iff_left.mpr hij)) ((past_false hj').mp hp))
    replace hk1 : k ≤ a.size - ia := hk1
    replace hk3 : ∀ i, k ≤ i → i < a.size - ia → past false b[ib] a (ia + i) = false := hk3
    have mA : ML a b (out ++ a.extract ia (ia + k)) (ia + k) ib := h3.chunkA sb h5 hk2
    dsimp -zeta -zetaHave only
    extract_lets -underBinder q12 jp2
    have J2 : ∀ (out : Array Keyed) (ia : Nat) (h4 : ia + 1 < a.size), ML a b out ia ib → ky b[ib] ≤ ky a[ia] → x + 2 ≤ ia + ib → wpS (model prog w) A E s (jp2 () out ia) (StepL st a b (x + 2)) (SortSt.mk' (kindOf st) (arrOf st) (pendingOf st) g1 (failedOf st)) := by
      intro out ia h4 m hle h6
      refine wpS_bind (wpS_elX h5 ?_)
      have m := m.pushB sa (by exact Nat.le_of_lt h4) h5 hle
      refine wpS_ite (fun e => ?_) fun e => ?_
      · exact wpS_pure ⟨near1, m.doneB (eq_of_beq e)⟩
      replace e : ib + 1 ≠ b.size := fun e' => e (beq_iff_eq.mpr e')
      have h7 : ib + 1 < b.size := by exact Nat.lt_of_le_of_ne h5 e
      refine wpS_bind (wpS_elX (show ia < a.size by exact Nat.le_of_lt h4) ?_)
      refine wpS_bind (wpS_galX hk (ha _ _) hb (by show ib + 1 + (b.size - (ib + 1)) ≤ _; exact ar_100 h5) (by show 0 < b.size - (ib + 1); exact ar_101 e h5) (fun i j hij hj hp => ?_) fun k hk1 hk2 hk3 => ?_)
      · have hj0 : j < b.size - (ib + 1) := hj
        have hj' : ib + 1 + j < b.size := by exact Nat.add_lt_of_lt_sub' hj0
        have hi' : ib + 1 + i < b.size := by exact Nat.add_lt_of_lt_sub' (Nat.lt_of_le_of_lt hij hj0)
        exact (past_true hi').mpr (Int.lt_of_le_of_lt (sb _ _ hi' hj' (by exact ar_104 hij)) ((past_true hj').mp hp))
      replace hk1 : k ≤ b.size - (ib + 1) := hk1
      replace hk3 : ∀ i, k ≤ i → i < b.size - (ib + 1) → past true a[ia] b (ib + 1 + i) = false := hk3
      have mB := m.chunkB sa (by exact Nat.le_of_lt h4) hk2
      dsimp -zeta -zetaHave only
      extract_lets -underBinder q13 jp3
      have J3 : ∀ (out : Array Keyed) (ib : Nat) (h5 : ib < b.size), ML a b out ia ib → ky a[ia] ≤ ky b[ib] → x + 2 ≤ ia + ib → wpS (model prog w) A E s (jp3 () out ib) (StepL st a b (x + 2)) (SortSt.mk' (kindOf st) (arrOf st) (pendingOf st) g1 (failedOf st)) := by
        intro out ib h5 m hle h6
        refine wpS_bind (wpS_elX (show ia < a.size by exact Nat.le_of_lt h4) ?_)
        have m := m.pushA sb (by exact Nat.le_of_lt h4) h5 hle
        refine wpS_ite (fun e => ?_) fun e => ?_
        · exact wpS_pure ⟨near1, m.lastA sb na nb h2 (eq_of_beq e)⟩
        replace e : ia + 1 + 1 ≠ a.size := fun e' => e (beq_iff_eq.mpr e')
        have f1 : ia + 1 + 1 < a.size := by exact Nat.lt_of_le_of_ne h4 e
        have f2 : x + 2 ≤ ia + 1 + ib := by exact ar_105 h6
        exact wpS_ite (fun _ => wpS_pure ⟨near1, m, f1, h5, f2⟩) fun _ => wpS_pure ⟨near1, rfl, m, f1, h5, f2⟩
      clear_value jp3
      have hlt : ∀ (h : ib + 1 + k < b.size), ky a[ia] ≤ ky b[ib + 1 + k] := fun h => by
        have := hk3 k (Nat.le_refl _) (by exact Nat.lt_sub_iff_add_lt'.mpr h)
        exact Int.not_lt.mp fun e => by rw [(past_true h).mpr e] at this; cases this
      refine wpS_ite (fun hk0 => ?_) fun hk0 => ?_
      · refine wpS_ite (fun e => ?_) fun e => ?_
        · exact wpS_pure ⟨near1, mB.doneB (eq_of_beq e)⟩
        · replace e : ib + 1 + k ≠ b.size := fun e' => e (beq_iff_eq.mpr e')
          exact J3 _ (ib + 1 + k) (by exact Nat.lt_of_le_of_ne (Nat.le_trans (Nat.add_le_add_left hk1 _) (Nat.le_of_eq (Nat.add_sub_cancel' h5))) e) mB (hlt _) (by exact ar_108 h6)
      · have hk0' : k = 0 := by exact Nat.eq_zero_of_not_pos hk0
        subst hk0'
        exact J3 _ (ib + 1) h7 m (hlt h7) (by exact ar_110 h6)
    clear_value jp2
    have hlt : ∀ (h : ia + k < a.size), ky b[ib] ≤ ky a[ia + k] := fun h => by
      have := hk3 k (Nat.le_refl _) (by exact Nat.lt_sub_iff_add_lt'.mpr h)
      exact Int.not_lt.mp fun e => by rw [(past_false h).mpr (Int.le_of_lt e)] at this; cases this
    refine wpS_ite (fun hk0 => ?_) fun hk0 => ?_
    · refine wpS_ite (fun e => ?_) fun e => ?_
      · exact wpS_pure ⟨near1, mA.lastA sb na nb h2 (eq_of_beq e)⟩
      replace e : ia + k + 1 ≠ a.size := fun e' => e (beq_iff_eq.mpr e')
      refine wpS_ite (fun e => ?_) fun e2 => ?_
      · exact wpS_pure ⟨near1, mA.doneA (eq_of_beq e)⟩
      replace e2 : ia + k ≠ a.size := fun e' => e2 (beq_iff_eq.mpr e')
      exact J2 _ (ia + k) (by exact Nat.lt_of_le_of_ne (Nat.lt_of_le_of_ne (Nat.le_trans (Nat.add_le_add_left hk1 _) (Nat.le_of_eq (Nat.add_sub_cancel' (Nat.le_of_lt (Nat.lt_of_succ_lt h4))))) e2) e) mA (hlt (by exact ar_113 h4 e2 hk1)) (by exact ar_114 h6)
    · have hk0' : k = 0 := by exact Nat.eq_zero_of_not_pos hk0
      subst hk0'
      exact J2 _ _ h4 h3 (hlt (by exact Nat.le_of_lt h4)) h6
  clear_value jp
  exact wpS_ite (fun _ => J1 _) fun _ => J1 _
end
end Inn
end
section
set_option maxRecDepth 10000
set_option linter.unusedVariables false
namespace Inn
open PySem PyProof.Rows
noncomputable def hiX : Array Keyed → Array Keyed → StateT SortSt Sem (Array Keyed) := sortPriv% PySem.Builtin.mergeHi
noncomputable def MH (a b out : Array Keyed) (na nb : Nat) : Prop := MI (fun x => - ky x) (a.toList ++ b.toList) out.toList (a.toList.take na).reverse (b.toList.take nb).reverse
section
variable {a b out : Array Keyed} {na nb : Nat}
theorem MH.chunkA {i : Nat} (h : MH a b out na nb) (hi : i ≤ na) (hc : ∀ j (hj : j < a.size), i ≤ j → j < na → ∀ l (hl : l < b.size), l < nb → ky b[l] ≤ ky a[j]) : MH a b (out ++ (a.extract i na).reverse) i nb := by
  unfold MH at *
  rw [take_cut a hi] at h
  rw [Array.toList_append]
  refine h.left fun x hx y hy => ?_
  obtain ⟨l, hl, h1, rfl⟩ := mem_take (List.mem_reverse.mp hy)
  rw [Array.toList_reverse] at hx
  obtain ⟨j, hj, h2, h3, rfl⟩ := mem_ext (List.mem_reverse.mp hx)
  exact Int.neg_le_neg (hc j hj h2 h3 l hl h1)
theorem MH.chunkB {i : Nat} (h : MH a b out na nb) (hi : i ≤ nb) (hc : ∀ j (hj : j < b.size), i ≤ j → j < nb → ∀ l (hl : l < a.size), l < na → ky a[l] ≤ ky b[j]) : MH a b (out ++ (b.extract i nb).reverse) na i := by
  unfold MH at *
  rw [take_cut b hi] at h
  rw [Array.toList_append]
  refine h.right fun x hx y hy => ?_
  obtain ⟨l, hl, h1, rfl⟩ := mem_take (List.mem_reverse.mp hy)
  rw [Array.toList_reverse] at hx
  obtain ⟨j, hj, h2, h3, rfl⟩ := mem_ext (List.mem_reverse.mp hx)
  exact Int.neg_le_neg (hc j hj h2 h3 l hl h1)
theorem ext_one {i : Nat} (h0 : 0 < i) (hi : i - 1 < a.size) : out ++ (a.extract (i - 1) i).reverse = out.push a[i - 1] := by
  obtain ⟨n, rfl⟩ : ∃ n, i = n + 1 := ⟨i - 1, by exact (Nat.sub_eq_iff_eq_add h0).mp rfl⟩
  apply Array.toList_inj.mp
  simp only [Nat.add_sub_cancel] at hi ⊢
  simp [Array.toList_extract, List.extract_eq_take_drop, drop_cons hi]
theorem MH.pushA (h : MH a b out na nb) (h0 : 0 < na) (hi : na - 1 < a.size) (hc : ∀ l (hl : l < b.size), l < nb → ky b[l] ≤ ky a[na - 1]) : MH a b (out.push a[na - 1]) (na - 1) nb := by
  rw [← ext_one h0 hi]
  refine h.chunkA (by exact ar_117) fun j hj h1 h2 l hl h3 => ?_
  have e : j = na - 1 := by exact Nat.le_antisymm (Nat.le_sub_one_of_lt h2) h1
  subst e
  exact hc l hl h3
theorem MH.pushB (h : MH a b out na nb) (h0 : 0 < nb) (hi : nb - 1 < b.size) (hc : ∀ l (hl : l < a.size), l < na → ky a[l] ≤ ky b[nb - 1]) : MH a b (out.push b[nb - 1]) na (nb - 1) := by
  rw [← ext_one h0 hi]
  refine h.chunkB (by exact ar_117) fun j hj h1 h2 l hl h3 => ?_
  have e : j = nb - 1 := by exact Nat.le_antisymm (Nat.le_sub_one_of_lt h2) h1
  subst e
  exact hc l hl h3
theorem ext_to (a : Array Keyed) (i : Nat) : (a.extract 0 i).toList = a.toList.take i := by
  simp [Array.toList_extract, List.extract_eq_take_drop]
theorem MH.doneA (h : MH a b out na nb) (e : na = 0) : MF a b (a.extract 0 na ++ b.extract 0 nb ++ out.reverse) := by
  subst e
  have := (MI.endA h).rev
  unfold MF
  simpa only [Array.toList_append, ext_to, Array.toList_reverse, List.take_zero, List.nil_append, List.reverse_append, List.reverse_reverse] using this
theorem MH.doneB (h : MH a b out na nb) (e : nb = 0) : MF a b (a.extract 0 na ++ b.extract 0 nb ++ out.reverse) := by
  subst e
  have := (MI.endB h).rev
  unfold MF
  simpa only [Array.toList_append, ext_to, Array.toList_reverse, List.take_zero, List.append_nil, List.reverse_append, List.reverse_reverse] using this
theorem MH.firstB (h : MH a b out na nb) (sa : Up2 ky a) (za : 0 < a.size) (zb : 0 < b.size) (h1 : ky b[0] ≤ ky a[0]) (e : nb = 1) : MF a b (b.extract 0 nb ++ a.extract 0 na ++ out.reverse) := by
  have := (MI.last h.swap fun x hx y hy => by
    obtain ⟨i, hi, h3, rfl⟩ := mem_take (List.mem_reverse.mp hx)
    obtain ⟨j, hj, h4, rfl⟩ := mem_take (List.mem_reverse.mp hy)
    have e2 : j = 0 := by exact ar_119 h4 e
    subst e2
    exact Int.neg_le_neg (Int.le_trans h1 (sa _ _ za hi (Nat.zero_le _)))).rev
  unfold MF
  simpa only [Array.toList_append, ext_to, Array.toList_reverse, List.reverse_append, List.reverse_reverse, List.append_assoc] using this
end
noncomputable def HI (a b : Array Keyed) (r : Option (Array Keyed)) (na nb : Nat) (out : Array Keyed) (N : Nat) : Prop := match r with
  | some r => MF a b r
  | none => MH a b out na nb ∧ (0 < na ∧ na ≤ a.size) ∧ (1 < nb ∧ nb ≤ b.size) ∧ na + nb + N ≤ a.size + b.size
abbrev HC := Option (Array Keyed) × Nat × Nat × Array Keyed × Nat × Nat × Nat
noncomputable def StepH (st : SortSt) (a b : Array Keyed) (N : Nat) : ForInStep HC → SortSt → Prop
  | .done c, st' => Near st st' ∧ HI a b c.1 c.2.1 c.2.2.1 c.2.2.2.1 N
  | .yield c, st' => Near st st' ∧ c.1 = none ∧ HI a b none c.2.1 c.2.2.1 c.2.2.2.1 N
section
variable {prog : Program} {w : World} {A : Around} {E : Value → Shared → Prop} {s : Shared}
theorem wpS_hiX {a b : Array Keyed} {st : SortSt} {Q : Array Keyed → SortSt → Prop} (hk : kindOf st = oneType') (ha : ∀ i (h : i < a.size), IK a[i]) (hb : ∀ i (h : i < b.size), IK b[i])
    (sa : Up2 ky a) (sb : Up2 ky b) (za : 0 < a.size) (zb : 0 < b.size) (h1 : ky b[0] ≤ ky a[0]) (h2 : ky b[b.size - 1] ≤ ky a[a.size - 1])
    (h : ∀ r st', Near st st' → MF a b r → Q r st') : wpS (model prog w) A E s (hiX a b) Q st := by
  have near0 : Near st st := ⟨gallopOf st, rfl⟩
  have m0 : MH a b #[] a.size b.size := by
    unfold MH
    have e1 : a.toList.take a.size = a.toList := List.take_of_length_le (by simp)
    have e2 : b.toList.take b.size = b.toList := List.take_of_length_le (by simp)
    rw [e1, e2]
    exact ⟨sa.rlist, sb.rlist, show (a.toList.reverse ++ b.toList.reverse).Perm _ from List.Perm.append (List.reverse_perm _) (List.reverse_perm _)⟩
  have m1 : MH a b #[a[a.size - 1]] (a.size - 1) b.size := by
    have := m0.pushA za (by exact Nat.sub_one_lt_of_lt za) fun l hl _ => Int.le_trans (sb _ _ hl (by exact Nat.sub_one_lt_of_lt zb) (by exact Nat.le_sub_one_of_lt hl)) h2
    simpa using this
  refine wpS_bind (wpS_lift (wpAny_rule ⟨rfl, ?_⟩))
  refine wpS_bind (wpS_elX (show a.size - 1 < a.size by exact Nat.sub_one_lt_of_lt za) ?_)
  refine wpS_ite (fun e => ?_) fun e1 => ?_
  · exact wpS_pure (h _ _ near0 (m1.doneA (eq_of_beq e)))
  refine wpS_ite (fun e => ?_) fun e2 => ?_
  · exact wpS_pure (h _ _ near0 (m1.firstB sa za zb h1 (eq_of_beq e)))
  replace e1 : a.size - 1 ≠ 0 := fun e => e1 (beq_iff_eq.mpr e)
  replace e2 : b.size ≠ 1 := fun e => e2 (beq_iff_eq.mpr e)
  refine wpS_bind (wpS_get ?_)
  refine wpS_bind (wpS_mono (wpS_forRange (I := fun x (c : Option (Array Keyed) × Nat × Nat × Array Keyed × Nat) st' => Near st st' ∧ c.1 = none ∧ HI a b none c.2.1 c.2.2.1 c.2.2.2.1 (x + 1))
    (Q := fun c st' => Near st st' ∧ ∃ r, c.1 = some r ∧ MF a b r) ?step ?fin ⟨near0, rfl, m1, (by exact ar_120 e1 : 0 < a.size - 1 ∧ a.size - 1 ≤ a.size), (by exact ar_121 zb e2 : 1 < b.size ∧ b.size ≤ b.size), (by exact ar_122 za : a.size - 1 + b.size + (0 + 1) ≤ a.size + b.size)⟩) ?post)
  case post =>
    rintro ⟨_, c⟩ st' ⟨hn, r, rfl, hr⟩
    exact wpS_pure (h _ _ hn hr)
  case fin =>
    rintro ⟨_, na, nb, out, g⟩ st' ⟨hn, rfl, _, h3, h4, h5⟩
    replace h3 : 0 < na ∧ na ≤ a.size := h3
    replace h4 : 1 < nb ∧ nb ≤ b.size := h4
    replace h5 : na + nb + (max 0 (a.size + b.size) + 1) ≤ a.size + b.size := h5
    omega
  case step =>
  rintro x ⟨_, na, nb, out, g⟩ st' _ hx ⟨hn, rfl, hL⟩
  refine wpS_bind (wpS_mono (wpS_forRange (I := fun y (c : Option (Array Keyed) × Nat × Nat × Array Keyed × Nat × Nat) st' => Near st st' ∧ c.1 = none ∧ HI a b none c.2.1 c.2.2.1 c.2.2.2.1 (x + 1 + y))
    (Q := fun c st' => Near st st' ∧ HI a b c.1 c.2.1 c.2.2.1 c.2.2.2.1 (x + 2)) ?step1 ?fin1 ⟨hn, rfl, hL⟩) ?post1)
  case fin1 =>
    rintro ⟨_, na, nb, out, ac, bc⟩ st' ⟨hn, rfl, h3, h4, h5, h6⟩
    replace h4 : 0 < na ∧ na ≤ a.size := h4
    replace h6 : na + nb + (x + 1 + max 0 (a.size + b.size)) ≤ a.size + b.size := h6
    exact ⟨hn, h3, h4, h5, (by exact ar_123 h6 : na + nb + (x + 2) ≤ a.size + b.size)⟩
  case step1 =>
    rintro y ⟨_, na, nb, out, ac, bc⟩ st' _ hy ⟨hn, rfl, h3, h4, h5, h6⟩
    replace h3 : MH a b out na nb := h3
    replace h4 : 0 < na ∧ na ≤ a.size := h4
    replace h5 : 1 < nb ∧ nb ≤ b.size := h5
    replace h6 : na + nb + (x + 1 + y) ≤ a.size + b.size := h6
    have hk' : kindOf st' = oneType' := by obtain ⟨g, rfl⟩ := hn; exact hk
    have iA : na - 1 < a.size := by exact ar_124 h4
    have iB : nb - 1 < b.size := by exact ar_125 h5
    refine wpS_bind (wpS_elX iB (wpS_bind (wpS_elX iA (wpS_bind (wpS_ltX hk' (hb _ _) (ha _ _) ?_)))))
    refine wpS_ite (fun hlt => ?_) fun hlt => ?_
    · replace hlt : ky b[nb - 1] < ky a[na - 1] := of_decide_eq_true hlt
      refine wpS_bind (wpS_elX iA ?_)
      have m := h3.pushA h4.1 iA fun l hl h => Int.le_trans (sb _ _ hl iB (by exact Nat.le_sub_one_of_lt h)) (Int.le_of_lt hlt)
      refine wpS_ite (fun e => ?_) fun e => ?_
      · exact wpS_pure ⟨hn, m.doneA (eq_of_beq e)⟩
      · replace e : na - 1 ≠ 0 := fun e' => e (beq_iff_eq.mpr e')
        have f1 : 0 < na - 1 ∧ na - 1 ≤ a.size := by exact ar_126 h4 e
        have f2 : na - 1 + nb + (x + 1 + (y + 1)) ≤ a.size + b.size := by exact ar_127 h4 h6
        exact wpS_ite (fun _ => wpS_pure ⟨hn, m, f1, h5, Nat.le_trans (by show na - 1 + nb + (x + 2) ≤ _; exact ar_128) f2⟩) fun _ => wpS_pure ⟨hn, rfl, m, f1, h5, f2⟩
    · replace hlt : ¬ ky b[nb - 1] < ky a[na - 1] := fun e => hlt (decide_eq_true e)
      refine wpS_bind (wpS_elX iB ?_)
      have m := h3.pushB (by exact Nat.le_of_lt h5.1) iB fun l hl h => Int.le_trans (sa _ _ hl iA (by exact Nat.le_sub_one_of_lt h)) (Int.not_lt.mp hlt)
      refine wpS_ite (fun e => ?_) fun e => ?_
      · exact wpS_pure ⟨hn, m.firstB sa za zb h1 (eq_of_beq e)⟩
      · replace e : nb - 1 ≠ 1 := fun e' => e (beq_iff_eq.mpr e')
        have f1 : 1 < nb - 1 ∧ nb - 1 ≤ b.size := by exact ⟨Nat.lt_of_le_of_ne (Nat.le_sub_one_of_lt h5.1) (Ne.symm e), Nat.le_trans (Nat.sub_le _ _) h5.2⟩
        have f2 : na + (nb - 1) + (x + 1 + (y + 1)) ≤ a.size + b.size := by exact ar_131 h5 h6
        exact wpS_ite (fun _ => wpS_pure ⟨hn, m, h4, f1, Nat.le_trans (by show na + (nb - 1) + (x + 2) ≤ _; exact ar_132) f2⟩) fun _ => wpS_pure ⟨hn, rfl, m, h4, f1, f2⟩
  case post1 =>
  rintro ⟨r, na, nb, out, ac, bc⟩ st' ⟨hn, hL⟩
  cases r with
  | some r => exact wpS_pure ⟨hn, r, rfl, hL⟩
  | none =>
  refine wpS_bind (wpS_lift (wpAny_rule ⟨rfl, ?_⟩))
  refine wpS_bind (wpS_mono (wpS_forRange (I := fun y (c : HC) st' => Near st st' ∧ c.1 = none ∧ HI a b none c.2.1 c.2.2.1 c.2.2.2.1 (x + 2))
    (Q := fun (c : HC) st' => Near st st' ∧ HI a b c.1 c.2.1 c.2.2.1 c.2.2.2.1 (x + 2)) ?step2 ?fin2 ⟨hn, rfl, hL⟩) ?post2)
  case fin2 =>
    rintro ⟨_, c⟩ st' ⟨hn, rfl, hL⟩
    exact ⟨hn, hL⟩
  case post2 =>
    rintro ⟨r, na, nb, out, g, ac, bc⟩ st' ⟨hn, hL⟩
    cases r with
    | some r => exact wpS_pure ⟨hn, r, rfl, hL⟩
    | none =>
      obtain ⟨g0, rfl⟩ := hn
      exact wpS_bind (wpS_modify (wpS_pure ⟨⟨_, rfl⟩, rfl, hL⟩))
  case step2 =>
  rintro y ⟨_, na, nb, out, g, ac, bc⟩ st' _ hy ⟨⟨g0, rfl⟩, rfl, h3, h4, h5, h6⟩
  replace h3 : MH a b out na nb := h3
  replace h4 : 0 < na ∧ na ≤ a.size := h4
  replace h5 : 1 < nb ∧ nb ≤ b.size := h5
  replace h6 : na + nb + (x + 2) ≤ a.size + b.size := h6
  refine wpS_mono (Q := StepH st a b (x + 2)) ?_ (fun r st' h => by cases r <;> exact h)
  extract_lets -underBinder q1 q2 q3 q4 q5 q6 q7 q8 q9 q10 q11 jp
  have J1 : ∀ g', wpS (model prog w) A E s (jp () g') (StepH st a b (x + 2)) (SortSt.mk' (kindOf st) (arrOf st) (pendingOf st) g0 (failedOf st)) := by
    intro g1
    refine wpS_bind (wpS_modify ?_)
    have near1 : Near st (SortSt.mk' (kindOf st) (arrOf st) (pendingOf st) g1 (failedOf st)) := ⟨_, rfl⟩
    have iB : nb - 1 < b.size := by exact ar_125 h5
    refine wpS_bind (wpS_elX iB ?_)
    refine wpS_bind (wpS_galX hk (hb _ _) ha (by show 0 + na ≤ _; exact ar_133 h4) (by show na - 1 < na; exact Nat.sub_lt (Nat.lt_of_lt_of_le Nat.zero_lt_one h4.1) Nat.zero_lt_one) (fun i j hij hj hp => ?_) fun at_ hk1 hk2 hk3 => ?_)
    · have hj0 : j < na := hj
      have hj' : 0 + j < a.size := by exact ar_135 h4 hj0
      have hi' : 0 + i < a.size := by exact ar_136 h4 hj0 hij
      exact (past_false hi').mpr (Int.le_trans (sa _ _ hi' hj' (by exact ar_137 hij)) ((past_false hj').mp hp))
    replace hk1 : at_ ≤ na := hk1
    replace hk3 : ∀ i, at_ ≤ i → i < na → past false b[nb - 1] a (0 + i) = false := hk3
    have up : ∀ l (hl : l < a.size), l < at_ → ky a[l] ≤ ky b[nb - 1] := fun l hl h => by
      have := hk2 l h
      rw [Nat.zero_add] at this
      exact (past_false hl).mp this
    have mA : MH a b (out ++ (a.extract at_ na).reverse) at_ nb := h3.chunkA hk1 fun j hj g1 g2 l hl g3 => by
      have := hk3 j g1 g2
      rw [Nat.zero_add] at this
      refine Int.le_trans (sb _ _ hl iB (by exact Nat.le_sub_one_of_lt g3)) (Int.not_lt.mp fun e => ?_)
      rw [(past_false hj).mpr (Int.le_of_lt e)] at this; cases this
    dsimp -zeta -zetaHave only
    extract_lets -underBinder q12 q12b jp2
    have J2 : ∀ (na : Nat) (out : Array Keyed), MH a b out na nb → (0 < na ∧ na ≤ a.size) → (∀ l (hl : l < a.size), l < na → ky a[l] ≤ ky b[nb - 1]) → na + nb + (x + 2) ≤ a.size + b.size → wpS (model prog w) A E s (jp2 () na out) (StepH st a b (x + 2)) (SortSt.mk' (kindOf st) (arrOf st) (pendingOf st) g1 (failedOf st)) := by
      intro na out m h4 hle h6
      refine wpS_bind (wpS_elX iB ?_)
      have m := m.pushB (by exact Nat.le_of_lt h5.1) iB hle
      refine wpS_ite (fun e => ?_) fun e => ?_
      · exact wpS_pure ⟨near1, m.firstB sa za zb h1 (eq_of_beq e)⟩
      replace e : nb - 1 ≠ 1 := fun e' => e (beq_iff_eq.mpr e')
      have iA : na - 1 < a.size := by exact ar_124 h4
      refine wpS_bind (wpS_elX iA ?_)
      refine wpS_bind (wpS_galX hk (ha _ _) hb (by show 0 + (nb - 1) ≤ _; exact ar_138 h5) (by show nb - 1 - 1 < nb - 1; exact Nat.sub_lt (Nat.sub_pos_of_lt h5.1) Nat.zero_lt_one) (fun i j hij hj hp => ?_) fun at_ hk1 hk2 hk3 => ?_)
      · have hj0 : j < nb - 1 := hj
        have hj' : 0 + j < b.size := by exact ar_140 h5 hj0
        have hi' : 0 + i < b.size := by exact ar_141 h5 hj0 hij
        exact (past_true hi').mpr (Int.lt_of_le_of_lt (sb _ _ hi' hj' (by exact ar_137 hij)) ((past_true hj').mp hp))
      replace hk1 : at_ ≤ nb - 1 := hk1
      replace hk3 : ∀ i, at_ ≤ i → i < nb - 1 → past true a[na - 1] b (0 + i) = false := hk3
      have up : ∀ l (hl : l < b.size), l < at_ → ky b[l] ≤ ky a[na - 1] := fun l hl h => by
        have := hk2 l h
        rw [Nat.zero_add] at this
        exact Int.le_of_lt ((past_true hl).mp this)
      have mB := m.chunkB hk1 fun j hj g1 g2 l hl g3 => by
        have := hk3 j g1 g2
        rw [Nat.zero_add] at this
        refine Int.le_trans (sa _ _ hl iA (by exact Nat.le_sub_one_of_lt g3)) (Int.not_lt.mp fun e => ?_)
        rw [(past_true hj).mpr e] at this; cases this
      dsimp -zeta -zetaHave only
      extract_lets -underBinder q13 q13b jp3
      have J3 : ∀ (nb : Nat) (out : Array Keyed), MH a b out na nb → (1 < nb ∧ nb ≤ b.size) → (∀ l (hl : l < b.size), l < nb → ky b[l] ≤ ky a[na - 1]) → na + nb + (x + 2) ≤ a.size + b.size → wpS (model prog w) A E s (jp3 () nb out) (StepH st a b (x + 2)) (SortSt.mk' (kindOf st) (arrOf st) (pendingOf st) g1 (failedOf st)) := by
        intro nb out m h5 hle h6
        refine wpS_bind (wpS_elX iA ?_)
        have m := m.pushA h4.1 iA hle
        refine wpS_ite (fun e => ?_) fun e => ?_
        · exact wpS_pure ⟨near1, m.doneA (eq_of_beq e)⟩
        replace e : na - 1 ≠ 0 := fun e' => e (beq_iff_eq.mpr e')
        have f1 : 0 < na - 1 ∧ na - 1 ≤ a.size := by exact ar_126 h4 e
        have f2 : na - 1 + nb + (x + 2) ≤ a.size + b.size := by exact Nat.le_trans (Nat.add_le_add_right (Nat.add_le_add_right (Nat.sub_le _ _) _) _) h6
        exact wpS_ite (fun _ => wpS_pure ⟨near1, m, f1, h5, f2⟩) fun _ => wpS_pure ⟨near1, rfl, m, f1, h5, f2⟩
      clear_value jp3
      refine wpS_ite (fun hk0 => ?_) fun hk0 => ?_
      · refine wpS_ite (fun e => ?_) fun e => ?_
        · exact wpS_pure ⟨near1, mB.firstB sa za zb h1 (eq_of_beq e)⟩
        replace e : at_ ≠ 1 := fun e' => e (beq_iff_eq.mpr e')
        refine wpS_ite (fun e => ?_) fun e2 => ?_
        · exact wpS_pure ⟨near1, mB.doneB (eq_of_beq e)⟩
        replace e2 : at_ ≠ 0 := fun e' => e2 (beq_iff_eq.mpr e')
        exact J3 at_ _ mB (by exact ⟨Nat.lt_of_le_of_ne (Nat.pos_of_ne_zero e2) (Ne.symm e), Nat.le_trans hk1 (Nat.le_trans (Nat.sub_le _ _) h5.2)⟩) up (by exact Nat.le_trans (Nat.add_le_add_right (Nat.add_le_add_left (Nat.le_trans hk1 (Nat.sub_le _ _)) _) _) h6)
      · replace hk0 : ¬ (nb - 1 - at_ > 0) := hk0
        have e0 : at_ = nb - 1 := by exact Nat.le_antisymm hk1 (Nat.sub_eq_zero_iff_le.mp (Nat.eq_zero_of_not_pos hk0))
        subst e0
        exact J3 (nb - 1) _ m (by exact ⟨Nat.lt_of_le_of_ne (Nat.le_sub_one_of_lt h5.1) (Ne.symm e), Nat.le_trans (Nat.sub_le _ _) h5.2⟩) up (by exact Nat.le_trans (Nat.add_le_add_right (Nat.add_le_add_left (Nat.sub_le _ _) _) _) h6)
    clear_value jp2
    refine wpS_ite (fun hk0 => ?_) fun hk0 => ?_
    · refine wpS_ite (fun e => ?_) fun e => ?_
      · exact wpS_pure ⟨near1, mA.doneA (eq_of_beq e)⟩
      replace e : at_ ≠ 0 := fun e' => e (beq_iff_eq.mpr e')
      exact J2 at_ _ mA (by exact ar_147 h4 e hk1) up (by exact ar_148 h6 hk1)
    · replace hk0 : ¬ (na - at_ > 0) := hk0
      have e0 : at_ = na := by exact ar_149 hk1 hk0
      subst e0
      exact J2 at_ _ h3 h4 up h6
  clear_value jp
  exact wpS_ite (fun _ => J1 _) fun _ => J1 _
end
end Inn
end
section
set_option maxRecDepth 10000
set_option linter.unusedVariables false
namespace Inn
open PySem PyProof.Rows
theorem Up2.of_list {a : Array Keyed} (h : a.toList.Pairwise (Le ky)) : Up2 ky a := by
  intro i j hi hj hij
  rcases Nat.lt_or_eq_of_le hij with hij | rfl
  · have := List.pairwise_iff_getElem.mp h i j (by simpa using hi) (by simpa using hj) hij
    simpa [Le] using this
  · exact Int.le_refl _
noncomputable def Seg (a : Array Keyed) (lo hi : Nat) : Prop := ∀ i j (hi' : i < a.size) (hj : j < a.size), lo ≤ i → i ≤ j → j < hi → ky a[i] ≤ ky a[j]
theorem Seg.ext {a : Array Keyed} {lo hi i j : Nat} (h : Seg a lo hi) (h1 : lo ≤ i) (h2 : j ≤ hi) : Up2 ky (a.extract i j) := by
  intro p q hp hq hpq
  rw [Array.size_extract] at hq
  simp only [Array.getElem_extract]
  exact h _ _ _ _ (Nat.le_trans h1 (Nat.le_add_right _ _)) (Nat.add_le_add_left hpq _) (Nat.lt_of_lt_of_le (Nat.lt_of_lt_of_le (Nat.add_lt_of_lt_sub' hq) (Nat.min_le_left _ _)) h2)
theorem merged {a r a' : Array Keyed} {n1 n2 k nb : Nat} (hs : a.size = n1 + n2) (s1 : Seg a 0 n1) (s2 : Seg a n1 (n1 + n2)) (hn1 : 0 < n1) (hn2 : 0 < n2) (hk : k ≤ n1) (hnb : nb ≤ n2)
    (kk : ∀ i (hi : i < a.size) (h0 : n1 < a.size), i < k → ky a[i] ≤ ky a[n1]) (bb : ∀ i (hi : i < a.size) (h0 : n1 - 1 < a.size), n1 + nb ≤ i → ky a[n1 - 1] ≤ ky a[i])
    (hr : MF (a.extract k n1) (a.extract n1 (n1 + nb)) r) (e : a'.toList = a.toList.take k ++ r.toList ++ a.toList.drop (n1 + nb)) : a'.Perm a ∧ Up2 ky a' := by
  have hl1 : n1 < a.size := by exact Nat.lt_of_lt_of_le (Nat.add_lt_add_left hn2 _) (Nat.le_of_eq hs.symm)
  have hl2 : n1 - 1 < a.size := by exact ar_151 hn1 hs
  obtain ⟨hr1, hr2⟩ := hr
  have cut : a.toList = a.toList.take k ++ ((a.extract k n1).toList ++ (a.extract n1 (n1 + nb)).toList) ++ a.toList.drop (n1 + nb) := by
    have e1 := drop_cut a k (n1 - k)
    rw [show k + (n1 - k) = n1 by exact Nat.add_sub_of_le hk] at e1
    have e2 := drop_cut a n1 nb
    rw [List.append_assoc, List.append_assoc, ← e2, ← e1, List.take_append_drop]
  have mem : ∀ x, x ∈ r.toList → ∃ j, ∃ hj : j < a.size, k ≤ j ∧ j < n1 + nb ∧ x = a[j] := fun x hx => by
    rcases List.mem_append.mp (hr2.mem_iff.mp hx) with h | h
    · obtain ⟨j, hj, h1, h2, rfl⟩ := mem_ext h; exact ⟨j, hj, h1, by exact ar_152 h2, rfl⟩
    · obtain ⟨j, hj, h1, h2, rfl⟩ := mem_ext h; exact ⟨j, hj, by exact Nat.le_trans hk h1, by exact ar_154 h2, rfl⟩
  have low : ∀ i (hi : i < a.size) j (hj : j < a.size), i < k → k ≤ j → ky a[i] ≤ ky a[j] := fun i hi j hj h1 h2 => by
    by_cases h3 : j < n1
    · exact s1 _ _ _ _ (Nat.zero_le _) (by exact Nat.le_trans (Nat.le_of_lt h1) h2) h3
    · exact Int.le_trans (kk i hi hl1 h1) (s2 _ _ _ _ (Nat.le_refl _) (by exact Nat.le_of_not_lt h3) (by exact Nat.lt_of_lt_of_le hj (Nat.le_of_eq hs)))
  have high : ∀ i (hi : i < a.size) j (hj : j < a.size), i < n1 + nb → n1 + nb ≤ j → ky a[i] ≤ ky a[j] := fun i hi j hj h1 h2 => by
    by_cases h3 : i < n1
    · exact Int.le_trans (s1 _ _ hi hl2 (Nat.zero_le _) (by exact Nat.le_sub_one_of_lt h3) (by exact Nat.sub_one_lt_of_lt hn1)) (bb j hj hl2 h2)
    · exact s2 _ _ _ _ (by exact Nat.le_of_not_lt h3) (by exact Nat.le_trans (Nat.le_of_lt h1) h2) (by exact Nat.lt_of_lt_of_le hj (Nat.le_of_eq hs))
  refine ⟨Array.perm_iff_toList_perm.mpr ?_, Up2.of_list ?_⟩
  · rw [e]; conv => rhs; rw [cut]
    exact (hr2.append_left _).append_right _
  · rw [e, List.pairwise_append, List.pairwise_append]
    refine ⟨⟨?_, hr1, ?_⟩, ?_, ?_⟩
    · rw [← ext_to]; exact (s1.ext (Nat.le_refl _) hk).list
    · intro x hx y hy
      obtain ⟨i, hi, h1, rfl⟩ := mem_take hx
      obtain ⟨j, hj, h2, h3, rfl⟩ := mem y hy
      exact low i hi j hj h1 h2
    · rw [← ext_end]; exact (s2.ext (Nat.le_add_right _ _) (by exact ar_59 hs)).list
    · intro x hx y hy
      obtain ⟨j, hj, h2, rfl⟩ := mem_drop hy
      rcases List.mem_append.mp hx with hx | hx
      · obtain ⟨i, hi, h1, rfl⟩ := mem_take hx
        exact low i hi j hj h1 (by exact ar_157 h2 hk)
      · obtain ⟨i, hi, h3, h4, rfl⟩ := mem x hx
        exact high i hi j hj h4 h2
section
variable {prog : Program} {w : World} {A : Around} {E : Value → Shared → Prop} {s : Shared}
theorem wpS_setX {σ : Type} {M : Model} {x st : σ} {Q : PUnit → σ → Prop} (h : Q ⟨⟩ x) : wpS M A E s (set x : StateT σ Sem PUnit) Q st := by
  unfold wpS; rw [StateT.run_set]; exact wpAny_pure ⟨rfl, h⟩
theorem wpS_mergeX {a : Array Keyed} {n1 n2 pw g : Nat} {Q : Bool → SortSt → Prop} (ha : ∀ i (h : i < a.size), IK a[i]) (hs : a.size = n1 + n2) (s1 : Seg a 0 n1) (s2 : Seg a n1 (n1 + n2)) (hn1 : 0 < n1) (hn2 : 0 < n2)
    (h : ∀ a' g', a'.Perm a → Up2 ky a' → Q true (SortSt.mk' oneType' a' #[(0, n1 + n2, pw)] g' none)) :
    wpS (model prog w) A E s (mergeAt' 0) Q (SortSt.mk' oneType' a #[(0, n1, pw), (n1, n2, 0)] g none) := by
  have hl1 : n1 < a.size := by exact Nat.lt_of_lt_of_le (Nat.add_lt_add_left hn2 _) (Nat.le_of_eq hs.symm)
  have hl2 : n1 - 1 < a.size := by exact ar_151 hn1 hs
  refine wpS_bind (wpS_get ?_)
  refine wpS_bind (wpS_setX ?_)
  have ep : (#[(0, n1, pw), (n1, n2, 0)].setIfInBounds 0 (0, n1 + n2, pw)).eraseIdxIfInBounds (0 + 1) = #[(0, n1 + n2, pw)] := by
    apply Array.toList_inj.mp
    rw [Array.eraseIdxIfInBounds, dif_pos (by simp), Array.toList_eraseIdx, Array.toList_setIfInBounds]
    rfl
  show wpS (model prog w) A E s _ _ (SortSt.mk' oneType' a ((#[(0, n1, pw), (n1, n2, 0)].setIfInBounds 0 (0, n1 + n2, pw)).eraseIdxIfInBounds (0 + 1)) g none)
  rw [ep]
  refine wpS_bind (wpS_elX hl1 ?_)
  have mono1 : ∀ i j, i ≤ j → j < n1 → past false a[n1] a (0 + j) = true → past false a[n1] a (0 + i) = true := fun i j hij hj hp => by
    have hj' : 0 + j < a.size := by exact ar_158 hj hs
    have hi' : 0 + i < a.size := by exact ar_159 hj hs hij
    exact (past_false hi').mpr (Int.le_trans (s1 _ _ hi' hj' (by exact ar_160) (by exact ar_137 hij) (by exact ar_161 hj)) ((past_false hj').mp hp))
  refine wpS_bind (wpS_galX rfl (ha _ _) ha (by show 0 + n1 ≤ a.size; exact ar_162 hs) hn1 mono1 fun k hk1 hk2 hk3 => ?_)
  replace hk2 : ∀ i, i < k → past false a[n1] a (0 + i) = true := hk2
  replace hk3 : ∀ i, k ≤ i → i < n1 → past false a[n1] a (0 + i) = false := hk3
  have kk : ∀ i (hi : i < a.size) (h0 : n1 < a.size), i < k → ky a[i] ≤ ky a[n1] := fun i hi _ hik => by
    have := hk2 i hik
    rw [Nat.zero_add] at this
    exact (past_false hi).mp this
  refine wpS_ite (fun e => ?_) fun e => ?_
  · replace e : n1 - k = 0 := eq_of_beq e
    refine wpS_pure (h _ _ (Array.Perm.refl _) ?_)
    intro i j hi hj hij
    by_cases c1 : j < n1
    · exact s1 _ _ _ _ (Nat.zero_le _) hij c1
    · by_cases c2 : i < n1
      · exact Int.le_trans (kk i hi hl1 (by exact ar_163 e c2)) (s2 _ _ _ _ (Nat.le_refl _) (by exact Nat.le_of_not_lt c1) (by exact Nat.lt_of_lt_of_le hj (Nat.le_of_eq hs)))
      · exact s2 _ _ _ _ (by exact Nat.le_of_not_lt c2) hij (by exact Nat.lt_of_lt_of_le hj (Nat.le_of_eq hs))
  replace e : n1 - k ≠ 0 := fun e' => e (beq_iff_eq.mpr e')
  have ix : 0 + k + (n1 - k) - 1 = n1 - 1 := by rw [Nat.zero_add, Nat.add_sub_cancel' hk1]
  have hl3 : 0 + k + (n1 - k) - 1 < a.size := ix ▸ hl2
  refine wpS_bind (wpS_elX hl3 ?_)
  have e3 : a[0 + k + (n1 - k) - 1] = a[n1 - 1] := by simp only [ix]
  rw [e3]
  have mono2 : ∀ i j, i ≤ j → j < n2 → past true a[n1 - 1] a (n1 + j) = true → past true a[n1 - 1] a (n1 + i) = true := fun i j hij hj hp => by
    have hj' : n1 + j < a.size := by exact Nat.lt_of_lt_of_le (Nat.add_lt_add_left hj _) (Nat.le_of_eq hs.symm)
    have hi' : n1 + i < a.size := by exact ar_165 hj hs hij
    exact (past_true hi').mpr (Int.lt_of_le_of_lt (s2 _ _ hi' hj' (by exact ar_50) (by exact Nat.add_le_add_iff_left.mpr hij) (by exact ar_166 hj)) ((past_true hj').mp hp))
  refine wpS_bind (wpS_galX rfl (ha _ _) ha (by show n1 + n2 ≤ a.size; exact ar_167 hs) (by show n2 - 1 < n2; exact Nat.sub_one_lt_of_lt hn2) mono2 fun nb hb1 hb2 hb3 => ?_)
  replace hb1 : nb ≤ n2 := hb1
  replace hb2 : ∀ i, i < nb → past true a[n1 - 1] a (n1 + i) = true := hb2
  replace hb3 : ∀ i, nb ≤ i → i < n2 → past true a[n1 - 1] a (n1 + i) = false := hb3
  have bb : ∀ i (hi : i < a.size) (h0 : n1 - 1 < a.size), n1 + nb ≤ i → ky a[n1 - 1] ≤ ky a[i] := fun i hi _ h1 => by
    have := hb3 (i - n1) (by exact Nat.le_sub_of_add_le' h1) (by exact ar_169 hn2 hi hs)
    rw [show n1 + (i - n1) = i by exact ar_170 h1] at this
    exact Int.not_lt.mp fun e => by rw [(past_true hi).mpr e] at this; cases this
  refine wpS_ite (fun e => ?_) fun e4 => ?_
  · replace e : nb = 0 := eq_of_beq e
    refine wpS_pure (h _ _ (Array.Perm.refl _) ?_)
    intro i j hi hj hij
    by_cases c1 : j < n1
    · exact s1 _ _ _ _ (Nat.zero_le _) hij c1
    · by_cases c2 : i < n1
      · exact Int.le_trans (s1 _ _ hi hl2 (Nat.zero_le _) (by exact Nat.le_sub_one_of_lt c2) (by exact Nat.sub_one_lt_of_lt hn1)) (bb j hj hl2 (by exact Nat.le_trans (Nat.add_le_add_left (Nat.le_of_eq e) _) (Nat.not_lt.mp c1)))
      · exact s2 _ _ _ _ (by exact Nat.le_of_not_lt c2) hij (by exact Nat.lt_of_lt_of_le hj (Nat.le_of_eq hs))
  replace e4 : nb ≠ 0 := fun e' => e4 (beq_iff_eq.mpr e')
  have sz1 : (a.extract (0 + k) n1).size = n1 - k := by rw [Array.size_extract_of_le (Nat.le_of_lt hl1), Nat.zero_add]
  have sz2 : (a.extract n1 (n1 + nb)).size = nb := by rw [Array.size_extract_of_le (by exact Nat.le_trans (Nat.add_le_add_left hb1 _) (Nat.le_of_eq hs.symm)), Nat.add_sub_cancel_left]
  have ik1 : ∀ i (h : i < (a.extract (0 + k) n1).size), IK (a.extract (0 + k) n1)[i] := fun i h => by simp only [Array.getElem_extract]; exact ha _ _
  have ik2 : ∀ i (h : i < (a.extract n1 (n1 + nb)).size), IK (a.extract n1 (n1 + nb))[i] := fun i h => by simp only [Array.getElem_extract]; exact ha _ _
  have u1 : Up2 ky (a.extract (0 + k) n1) := s1.ext (Nat.zero_le _) (Nat.le_refl _)
  have u2 : Up2 ky (a.extract n1 (n1 + nb)) := s2.ext (Nat.le_refl _) (by exact Nat.add_le_add_iff_left.mpr hb1)
  have p1 : 0 < (a.extract (0 + k) n1).size := by exact ar_173 e sz1
  have p2 : 0 < (a.extract n1 (n1 + nb)).size := by exact ar_174 sz2 e4
  have c1 : ky (a.extract n1 (n1 + nb))[0] ≤ ky (a.extract (0 + k) n1)[0] := by
    simp only [Array.getElem_extract, Nat.add_zero]
    have hkk : 0 + k < a.size := by exact ar_175 hn2 hs hk1
    have := hk3 k (Nat.le_refl _) (by exact Nat.sub_ne_zero_iff_lt.mp e)
    refine Int.not_lt.mp fun e => ?_
    rw [(past_false hkk).mpr (Int.le_of_lt e)] at this; cases this
  have c2 : ky (a.extract n1 (n1 + nb))[(a.extract n1 (n1 + nb)).size - 1] ≤ ky (a.extract (0 + k) n1)[(a.extract (0 + k) n1).size - 1] := by
    simp only [Array.getElem_extract, sz1, sz2]
    have := hb2 (nb - 1) (by exact Nat.sub_one_lt e4)
    have hx : n1 + (nb - 1) < a.size := by exact ar_178 hn2 hs hb1
    have e5 := (past_true hx).mp this
    have e6 : a[0 + k + (n1 - k - 1)] = a[n1 - 1] := by simp only [show 0 + k + (n1 - k - 1) = n1 - 1 by rw [Nat.zero_add, ← Nat.add_sub_assoc (Nat.pos_of_ne_zero e), Nat.add_sub_cancel' hk1]]
    rw [e6]; exact Int.le_of_lt e5
  have fin : ∀ (r : Array Keyed) (st' : SortSt), Near (SortSt.mk' oneType' a #[(0, n1 + n2, pw)] g none) st' → MF (a.extract (0 + k) n1) (a.extract n1 (n1 + nb)) r →
      Q true (SortSt.mk' oneType' (r.toList.zipIdx.foldl (fun a (p : Keyed × Nat) => a.setIfInBounds (0 + k + p.2) p.1) a) #[(0, n1 + n2, pw)] (gallopOf st') none) := by
    intro r st' hn hr
    have hlen : r.toList.length = n1 - k + nb := by
      have := hr.2.length_eq
      simp only [List.length_append, Array.length_toList, sz1, sz2] at this
      rw [Array.length_toList]; exact this
    have wb := write_back (0 + k) r.toList 0 a (by exact ar_179 hlen hs hk1 hb1)
    rw [hlen, show 0 + k + 0 = k by exact Eq.symm ((fun {a b} => Nat.right_eq_add.mpr) rfl), show k + (n1 - k + nb) = n1 + nb by exact ar_181 hk1] at wb
    rw [Nat.zero_add] at hr
    obtain ⟨g1, g2⟩ := merged hs s1 s2 hn1 hn2 hk1 hb1 kk bb hr wb
    exact h _ _ g1 g2
  refine wpS_ite (fun _ => wpS_bind (wpS_loX rfl ik1 ik2 u1 u2 p1 p2 c1 c2 ?_)) fun _ => wpS_bind (wpS_hiX rfl ik1 ik2 u1 u2 p1 p2 c1 c2 ?_)
  all_goals (
    rintro r st' ⟨g', rfl⟩ hr
    exact wpS_bind (wpS_modify (wpS_bind (wpS_get (wpS_pure (fin r _ ⟨g', rfl⟩ hr))))))
end
end Inn
end
section
set_option maxRecDepth 10000
set_option linter.unusedVariables false
namespace Inn
open PySem PyProof.Rows
theorem K_ky {xs : Array Keyed} {i : Nat} (h : i < xs.size) : K xs i = ky xs[i] := by
  unfold K ky; rw [getElem?_pos xs i h]
  show numOf _ = _
  unfold numOf
  split <;> simp_all
structure B6 (a₀ x0 : Array Keyed) (lo : Nat) (p : Array (Nat × Nat × Nat)) (st : SortSt) : Prop where
  kind : kindOf st = oneType'
  failed : failedOf st = none
  pend : pendingOf st = p
  perm : (arrOf st).Perm a₀
  keep : ∀ i, i < lo → (arrOf st)[i]? = x0[i]?
noncomputable def SS (xs : Array Keyed) (lo n : Nat) : Prop := ∀ i j, lo ≤ i → i ≤ j → j < lo + n → K xs i ≤ K xs j
noncomputable def NN (xs : Array Keyed) (lo n : Nat) : Prop := ∀ i j, lo ≤ i → i ≤ j → j < lo + n → K xs j ≤ K xs i
section
variable {prog : Program} {w : World} {A : Around} {E : Value → Shared → Prop} {s : Shared} {a₀ x0 : Array Keyed} {lo : Nat} {p : Array (Nat × Nat × Nat)}
theorem B6.mirror {st : SortSt} (h : B6 a₀ x0 lo p st) {i j : Nat} (hi : lo ≤ i) (hj : j ≤ a₀.size) : B6 a₀ x0 lo p (setArr st (mirror (arrOf st) i j ((j - i) / 2))) :=
  ⟨h.kind, h.failed, h.pend, (mirror_perm _ _ _ _).trans h.perm, fun k hk => by
    show (PyProof.Rows.mirror (arrOf st) i j ((j - i) / 2))[k]? = _
    rw [getElem?_mirror_all (by rw [h.perm.size_eq]; exact hj), if_neg (by exact ar_182 hk hi)]; exact h.keep k hk⟩
theorem wpS_lt6 {st : SortSt} {i j : Nat} {Q : Option Bool → SortSt → Prop} (h0 : IntKeys a₀) (hB : B6 a₀ x0 lo p st) (hi : i < a₀.size) (hj : j < a₀.size)
    (h : Q (some (decide (K (arrOf st) i < K (arrOf st) j))) st) : wpS (model prog w) A E s (ltAt' i j) Q st := by
  have at_ : ∀ {i : Nat}, i < a₀.size → ∃ t q, (arrOf st)[i]? = some (.int (K (arrOf st) i) t, q) := fun {i} hi => by
    have hi' : i < (arrOf st).size := by rw [hB.perm.size_eq]; exact hi
    obtain ⟨n, t, hn⟩ := h0 _ ((Array.perm_iff_toList_perm.mp hB.perm).mem_iff.mp (show (arrOf st)[i] ∈ (arrOf st).toList by simp))
    refine ⟨t, (arrOf st)[i].2, ?_⟩
    rw [K_ky hi', getElem?_pos _ i hi']
    have : ky (arrOf st)[i] = n := by unfold ky; rw [hn]
    rw [this, ← hn]
  obtain ⟨t, q, e1⟩ := at_ hi
  obtain ⟨u, r, e2⟩ := at_ hj
  exact wpS_ltAt hB.kind e1 e2 h
theorem SS.more {xs : Array Keyed} {n : Nat} (h : SS xs lo n) (hn : 1 ≤ n) (hl : ¬ K xs (lo + n) < K xs (lo + n - 1)) : SS xs lo (n + 1) := fun i j h1 h2 h3 => by
  rcases Nat.lt_or_ge j (lo + n) with h4 | h4
  · exact h i j h1 h2 h4
  · have : j = lo + n := by exact ar_183 h3 h4
    subst this
    rcases Nat.lt_or_ge i (lo + n) with h5 | h5
    · exact Int.le_trans (h i (lo + n - 1) h1 (by exact Nat.le_sub_one_of_lt h5) (by exact ar_185 hn)) (Int.not_lt.mp hl)
    · have : i = lo + n := by exact Nat.le_antisymm h2 h5
      subst this; exact Int.le_refl _
theorem NN.more {xs : Array Keyed} {n : Nat} (h : NN xs lo n) (hn : 1 ≤ n) (hl : K xs (lo + n) ≤ K xs (lo + n - 1)) : NN xs lo (n + 1) := fun i j h1 h2 h3 => by
  rcases Nat.lt_or_ge j (lo + n) with h4 | h4
  · exact h i j h1 h2 h4
  · have : j = lo + n := by exact ar_183 h3 h4
    subst this
    rcases Nat.lt_or_ge i (lo + n) with h5 | h5
    · exact Int.le_trans hl (h i (lo + n - 1) h1 (by exact Nat.le_sub_one_of_lt h5) (by exact ar_185 hn))
    · have : i = lo + n := by exact Nat.le_antisymm h2 h5
      subst this; exact Int.le_refl _
theorem NN.congr {xs ys : Array Keyed} {n : Nat} (h : NN xs lo n) (e : ∀ k, K ys k = K xs k) : NN ys lo n := fun i j h1 h2 h3 => by rw [e, e]; exact h i j h1 h2 h3
theorem wpS_run6 {st : SortSt} {nrem : Nat} {Q : Option Nat → SortSt → Prop} (h0 : IntKeys a₀) (hn : lo + nrem ≤ a₀.size) (h1 : 1 ≤ nrem) (hB : B6 a₀ x0 lo p st)
    (h : ∀ m st', B6 a₀ x0 lo p st' → 1 ≤ m → m ≤ nrem → SS (arrOf st') lo m → Q (some m) st') : wpS (model prog w) A E s (countRun' lo nrem) Q st := by
  rw [countRun'_eq]
  refine wpS_bind (wpS_mono (wpS_forRange (I := fun x c st' => st' = st ∧ c = (none, x) ∧ SS (arrOf st) lo x)
    (Q := fun c st' => st' = st ∧ ∃ n, c = (none, n) ∧ 1 ≤ n ∧ n ≤ nrem ∧ SS (arrOf st) lo n ∧ (n = nrem ∨ K (arrOf st) (lo + n) < K (arrOf st) (lo + n - 1))) ?step ?fin ⟨rfl, rfl, fun i j h1 h2 h3 => by
      have : i = j := by exact ar_187 h3 h1 h2
      subst this; exact Int.le_refl _⟩) ?post)
  case fin =>
    rintro c st' ⟨rfl, rfl, hs⟩
    rw [show max 1 nrem = nrem by exact Nat.max_eq_right h1] at hs ⊢
    exact ⟨rfl, _, rfl, h1, Nat.le_refl _, hs, .inl rfl⟩
  case step =>
    rintro x c st' hx1 hx ⟨rfl, rfl, hs⟩
    refine wpS_bind (wpS_lt6 h0 hB (show lo + x < a₀.size by exact Nat.lt_of_lt_of_le (Nat.add_lt_add_left hx _) hn) (show lo + x - 1 < a₀.size by exact Nat.lt_of_le_of_lt (Nat.sub_le _ _) (Nat.lt_of_lt_of_le (Nat.add_lt_add_left hx _) hn)) ?_)
    refine wpS_ite (fun e => ?_) fun e => ?_
    · exact wpS_pure ⟨rfl, x, rfl, hx1, Nat.le_of_lt hx, hs, .inr (of_decide_eq_true e)⟩
    · exact wpS_pure ⟨rfl, rfl, hs.more hx1 fun e' => e (decide_eq_true e')⟩
  case post =>
  rintro c st' ⟨rfl, n, rfl, hn1, hn2, hs, hor⟩
  refine wpS_ite (fun e => wpS_pure (h n _ hB hn1 hn2 hs)) fun e => ?_
  replace e : n ≠ nrem := fun e' => e (beq_iff_eq.mpr e')
  have hlt := hor.resolve_left e
  extract_lets -underBinder jp
  have J : ∀ st', B6 a₀ x0 lo p st' → NN (arrOf st') lo (n + 1) → wpS (model prog w) A E s (jp ()) Q st' := by
    intro st' hB hN
    refine wpS_bind (wpS_lift (wpAny_rule ⟨rfl, ?_⟩))
    refine wpS_bind (wpS_mono (wpS_forRange (I := fun x c st' => ∃ q, c = (none, x, q) ∧ B6 a₀ x0 lo p st' ∧ NN (arrOf st') lo x ∧ q + 1 ≤ x ∧ ∀ i, lo + x - (q + 1) ≤ i → i < lo + x → K (arrOf st') i = K (arrOf st') (lo + x - 1))
      (Q := fun c st' => ∃ x q, c = (none, x, q) ∧ B6 a₀ x0 lo p st' ∧ NN (arrOf st') lo x ∧ 1 ≤ x ∧ x ≤ nrem ∧ q + 1 ≤ x ∧ ∀ i, lo + x - (q + 1) ≤ i → i < lo + x → K (arrOf st') i = K (arrOf st') (lo + x - 1)) ?step2 ?fin2
      ⟨0, rfl, hB, hN, Nat.le_add_left _ _, fun i g1 g2 => by replace g1 : lo + (n + 1) - 1 ≤ i := g1; replace g2 : i < lo + (n + 1) := g2; show K _ i = K _ (lo + (n + 1) - 1); congr 1; exact ar_190 g1 g2⟩) ?post2)
    case fin2 =>
      rintro c st' ⟨q, rfl, g1, g2, g3, g4⟩
      have e9 : max (n + 1) nrem = nrem := by exact ar_191 e hn2
      refine ⟨_, q, rfl, g1, g2, ?_, ?_, g3, g4⟩
      · show 1 ≤ max (n + 1) nrem; exact ar_192
      · show max (n + 1) nrem ≤ nrem; exact ar_193 e hn2
    case step2 =>
      rintro x c st' hx1 hx ⟨q, rfl, hB, hN, hq, he⟩
      replace hx1 : n + 1 ≤ x := hx1
      have hsz : lo + x ≤ (arrOf st').size := by rw [hB.perm.size_eq]; exact Nat.le_trans (Nat.add_le_add_left (Nat.le_of_lt hx) _) hn
      refine wpS_bind (wpS_lt6 h0 hB (show lo + x < a₀.size by exact Nat.lt_of_lt_of_le (Nat.add_lt_add_left hx _) hn) (show lo + x - 1 < a₀.size by exact Nat.lt_of_le_of_lt (Nat.sub_le _ _) (Nat.lt_of_lt_of_le (Nat.add_lt_add_left hx _) hn)) ?_)
      refine wpS_ite (fun e => ?_) fun e => ?_
      · replace e := of_decide_eq_true e
        have hN' := hN.more (by exact Nat.one_le_of_lt hq) (Int.le_of_lt e)
        have h00 : ∀ st' : SortSt, ∀ i, lo + (x + 1) - (0 + 1) ≤ i → i < lo + (x + 1) → K (arrOf st') i = K (arrOf st') (lo + (x + 1) - 1) := fun st' i g1 g2 => by congr 1; exact ar_196 g1 g2
        refine wpS_ite (fun e2 => ?_) fun e2 => ?_
        · refine wpS_bind (wpS_reverse (wpS_pure ⟨0, rfl, hB.mirror (by show lo ≤ lo + x - (q + 1); exact ar_197 hq) (by show lo + x ≤ _; exact Nat.le_trans (Nat.add_le_add_left (Nat.le_of_lt hx) _) hn), hN'.congr (K_mirror_equal hsz he), by exact ar_198, h00 _⟩))
        · exact wpS_pure ⟨0, rfl, hB, hN', by exact ar_198, h00 _⟩
      · replace e : ¬ K (arrOf st') (lo + x) < K (arrOf st') (lo + x - 1) := fun e' => e (decide_eq_true e')
        refine wpS_bind (wpS_lt6 h0 hB (show lo + x - 1 < a₀.size by exact Nat.lt_of_le_of_lt (Nat.sub_le _ _) (Nat.lt_of_lt_of_le (Nat.add_lt_add_left hx _) hn)) (show lo + x < a₀.size by exact Nat.lt_of_lt_of_le (Nat.add_lt_add_left hx _) hn) ?_)
        refine wpS_ite (fun e2 => ?_) fun e2 => ?_
        · exact wpS_pure ⟨x, q, rfl, hB, hN, by exact Nat.one_le_of_lt hq, by exact Nat.le_of_succ_le hx, hq, he⟩
        · replace e2 : ¬ K (arrOf st') (lo + x - 1) < K (arrOf st') (lo + x) := fun e' => e2 (decide_eq_true e')
          have ee : K (arrOf st') (lo + x) = K (arrOf st') (lo + x - 1) := Int.le_antisymm (Int.not_lt.mp e2) (Int.not_lt.mp e)
          refine wpS_pure ⟨q + 1, rfl, hB, hN.more (by exact Nat.one_le_of_lt hq) (Int.le_of_eq ee), by exact ar_200 hq, fun i g1 g2 => ?_⟩
          rw [show lo + (x + 1) - 1 = lo + x by exact ar_201]
          rcases Nat.lt_or_ge i (lo + x) with g3 | g3
          · rw [he i (by exact ar_202 g1) g3, ee]
          · congr 1; exact ar_183 g2 g3
    case post2 =>
    rintro c st' ⟨x, q, rfl, hB, hN, hx1, hx2, hq, he⟩
    have hsz : lo + x ≤ (arrOf st').size := by rw [hB.perm.size_eq]; exact Nat.le_trans (Nat.add_le_add_left hx2 _) hn
    dsimp -zeta -zetaHave only
    extract_lets -underBinder r1 r2 r3 r4
    dsimp -zeta -zetaHave only [r1]
    extract_lets -underBinder jp2
    have J2 : ∀ st', B6 a₀ x0 lo p st' → NN (arrOf st') lo x → wpS (model prog w) A E s (jp2 ()) Q st' := by
      intro st' hB hN
      have hsz : lo + x ≤ (arrOf st').size := by rw [hB.perm.size_eq]; exact Nat.le_trans (Nat.add_le_add_left hx2 _) hn
      refine wpS_bind (wpS_reverse ?_)
      have hB' := hB.mirror (Nat.le_refl lo) (show lo + x ≤ a₀.size by exact Nat.le_trans (Nat.add_le_add_left hx2 _) hn)
      have hS : SS (PyProof.Rows.mirror (arrOf st') lo (lo + x) ((lo + x - lo) / 2)) lo x := fun i j g1 g2 g3 => by
        rw [K_mirror hsz, K_mirror hsz, if_pos (by exact ar_204 g3 g1 g2), if_pos (by exact ar_205 g3 g1 g2)]
        exact hN _ _ (by exact ar_206 g3) (by exact ar_207 g2) (by exact ar_208 hx1 g1)
      refine wpS_bind (wpS_mono (wpS_forRange (I := fun y c st'' => st'' = setArr st' (PyProof.Rows.mirror (arrOf st') lo (lo + x) ((lo + x - lo) / 2)) ∧ c = (none, y) ∧ SS (PyProof.Rows.mirror (arrOf st') lo (lo + x) ((lo + x - lo) / 2)) lo y)
        (Q := fun c st'' => st'' = setArr st' (PyProof.Rows.mirror (arrOf st') lo (lo + x) ((lo + x - lo) / 2)) ∧ ∃ y, c = (none, y) ∧ 1 ≤ y ∧ y ≤ nrem ∧ SS (PyProof.Rows.mirror (arrOf st') lo (lo + x) ((lo + x - lo) / 2)) lo y) ?step3 ?fin3 ⟨rfl, rfl, hS⟩) ?post3)
      case fin3 =>
        rintro c st'' ⟨rfl, rfl, g⟩
        refine ⟨rfl, _, rfl, ?_, ?_, g⟩
        · show 1 ≤ max x nrem; exact ar_209 h1
        · show max x nrem ≤ nrem; exact ar_210 hx2
      case step3 =>
        rintro y c st'' hy1 hy ⟨rfl, rfl, hs⟩
        replace hy1 : x ≤ y := hy1
        refine wpS_bind (wpS_lt6 h0 hB' (show lo + y < a₀.size by exact Nat.lt_of_lt_of_le (Nat.add_lt_add_left hy _) hn) (show lo + y - 1 < a₀.size by exact Nat.lt_of_le_of_lt (Nat.sub_le _ _) (Nat.lt_of_lt_of_le (Nat.add_lt_add_left hy _) hn)) ?_)
        refine wpS_ite (fun e => ?_) fun e => ?_
        · exact wpS_pure ⟨rfl, y, rfl, by exact Nat.lt_of_lt_of_le hx1 hy1, Nat.le_of_lt hy, hs⟩
        · exact wpS_pure ⟨rfl, rfl, hs.more (by exact Nat.lt_of_lt_of_le hx1 hy1) fun e' => e (decide_eq_true e')⟩
      case post3 =>
        rintro c st'' ⟨rfl, y, rfl, g1, g2, g3⟩
        exact wpS_pure (h y _ hB' g1 g2 g3)
    clear_value jp2
    refine wpS_ite (fun e2 => ?_) fun e2 => ?_
    · exact wpS_bind (wpS_reverse (J2 _ (hB.mirror (by show lo ≤ lo + x - (q + 1); exact ar_197 hq) (by show lo + x ≤ _; exact Nat.le_trans (Nat.add_le_add_left hx2 _) hn)) (hN.congr (K_mirror_equal hsz he))))
    · exact J2 _ hB hN
  clear_value jp
  have hsz : lo + n ≤ (arrOf st').size := by rw [hB.perm.size_eq]; exact Nat.le_trans (Nat.add_le_add_left hn2 _) hn
  refine wpS_ite (fun g => ?_) fun g => ?_
  · replace g : n > 1 := g
    refine wpS_bind (wpS_lt6 h0 hB (show lo < a₀.size by exact Nat.lt_of_lt_of_le (Nat.add_lt_add_left h1 _) hn) (show lo + n - 1 < a₀.size by exact ar_213 hn h1 hn2) ?_)
    refine wpS_ite (fun e2 => ?_) fun e2 => ?_
    · exact wpS_pure (h n _ hB hn1 hn2 hs)
    · replace e2 : ¬ K (arrOf st') lo < K (arrOf st') (lo + n - 1) := fun e' => e2 (decide_eq_true e')
      have hall : ∀ k, lo ≤ k → k < lo + n → K (arrOf st') k = K (arrOf st') (lo + n - 1) := fun k g1 g2 => by
        have a1 := hs lo k (Nat.le_refl _) g1 g2
        have a2 := hs k (lo + n - 1) g1 (by exact Nat.le_sub_one_of_lt g2) (by exact ar_185 hn1)
        exact ar_214 a1 a2 e2
      have hN : NN (arrOf st') lo n := fun i j g1 g2 g3 => by rw [hall i g1 (by exact Nat.lt_of_le_of_lt g2 g3), hall j (by exact Nat.le_trans g1 g2) g3]; exact Int.le_refl _
      exact wpS_bind (wpS_reverse (J _ (hB.mirror (Nat.le_refl lo) (show lo + n ≤ a₀.size by exact Nat.le_trans (Nat.add_le_add_left hn2 _) hn)) ((hN.more hn1 (Int.le_of_lt hlt)).congr (K_mirror_equal hsz hall))))
  · replace g : ¬ n > 1 := g
    have : n = 1 := by exact ar_216 hn1 g
    subst this
    have hN : NN (arrOf st') lo 1 := fun i j g1 g2 g3 => by
      have : i = j := by exact ar_187 g3 g1 g2
      subst this; exact Int.le_refl _
    exact J _ hB (hN.more (Nat.le_refl _) (Int.le_of_lt hlt))
theorem bub_le {f : Nat → Int} {lo p q i j : Nat} (hlo : ∀ i, lo ≤ i → i < p → f i ≤ f q) (hhi : ∀ i, p ≤ i → i < q → f q < f i) (hs : ∀ i j, lo ≤ i → i ≤ j → j < q → f i ≤ f j) (hpq : p ≤ q) (hlp : lo ≤ p)
    (g1 : lo ≤ i) (g2 : i ≤ j) (g3 : j ≤ q) : (if i = p then f q else if p < i ∧ i ≤ q then f (i - 1) else f i) ≤ (if j = p then f q else if p < j ∧ j ≤ q then f (j - 1) else f j) := by
  rcases Nat.lt_trichotomy i p with hi | hi | hi
  · rw [if_neg (Nat.ne_of_lt hi), if_neg (fun h => Nat.lt_asymm hi h.1)]
    rcases Nat.lt_trichotomy j p with hj | hj | hj
    · rw [if_neg (Nat.ne_of_lt hj), if_neg (fun h => Nat.lt_asymm hj h.1)]; exact hs i j g1 g2 (Nat.lt_of_lt_of_le hj hpq)
    · rw [if_pos hj]; exact hlo i g1 hi
    · rw [if_neg (Nat.ne_of_gt hj), if_pos ⟨hj, g3⟩]; exact hs i _ g1 (Nat.le_sub_one_of_lt (Nat.lt_trans hi hj)) (Nat.sub_one_lt_of_le (Nat.zero_lt_of_lt hj) g3)
  · rw [if_pos hi]; subst hi
    rcases Nat.eq_or_lt_of_le g2 with hj | hj
    · rw [if_pos hj.symm]; exact Int.le_refl _
    · rw [if_neg (Nat.ne_of_gt hj), if_pos ⟨hj, g3⟩]; exact Int.le_of_lt (hhi _ (Nat.le_sub_one_of_lt hj) (Nat.sub_one_lt_of_le (Nat.zero_lt_of_lt hj) g3))
  · have hj := Nat.lt_of_lt_of_le hi g2
    rw [if_neg (Nat.ne_of_gt hi), if_pos ⟨hi, Nat.le_trans g2 g3⟩, if_neg (Nat.ne_of_gt hj), if_pos ⟨hj, g3⟩]
    exact hs _ _ (Nat.le_sub_one_of_lt (Nat.lt_of_le_of_lt hlp hi)) (Nat.sub_le_sub_right g2 1) (Nat.sub_one_lt_of_le (Nat.zero_lt_of_lt hj) g3)
theorem wpS_ins6 {st : SortSt} {n ok : Nat} {Q : Bool → SortSt → Prop} (h0 : IntKeys a₀) (hn : lo + n ≤ a₀.size) (hok : ok ≤ n) (hB : B6 a₀ x0 lo p st) (hs : SS (arrOf st) lo ok)
    (h : ∀ st', B6 a₀ x0 lo p st' → SS (arrOf st') lo n → Q true st') : wpS (model prog w) A E s (binarySort' lo n ok) Q st := by
  rw [binarySort'_eq]
  refine wpS_bind (wpS_mono (wpS_forRange (I := fun k c st' => c = (none, ()) ∧ B6 a₀ x0 lo p st' ∧ SS (arrOf st') lo (min k n))
    (Q := fun c st' => c = (none, ()) ∧ B6 a₀ x0 lo p st' ∧ SS (arrOf st') lo n) ?step ?fin ?init) ?post)
  case post =>
    rintro c st' ⟨rfl, hB', hs'⟩
    exact wpS_pure (h st' hB' hs')
  case init =>
    refine ⟨rfl, hB, fun i j g1 g2 g3 => ?_⟩
    rcases Nat.lt_or_ge j (lo + ok) with g4 | g4
    · exact hs i j g1 g2 g4
    · have : i = j := by exact ar_217 g3 g1 g2 g4
      subst this; exact Int.le_refl _
  case fin =>
    rintro c st' ⟨hc, hB', hs'⟩
    refine ⟨hc, hB', ?_⟩
    rwa [show min (max (max ok 1) n) n = n by exact ar_218] at hs'
  case step =>
    rintro k c st' hak hkn ⟨rfl, hB', hs'⟩
    rw [show min k n = k by exact ar_219 hkn] at hs'
    have hk : lo + k < a₀.size := by exact Nat.lt_of_lt_of_le (Nat.add_lt_add_left hkn _) hn
    refine wpS_bind (wpS_mono (wpS_forRange (I := fun x c st'' => st'' = st' ∧ ∃ l r, c = (none, l, r) ∧ l ≤ r ∧ r ≤ k ∧ r + x ≤ l + k ∧
        (∀ i, lo ≤ i → i < lo + l → K (arrOf st') i ≤ K (arrOf st') (lo + k)) ∧ (∀ i, lo + r ≤ i → i < lo + k → K (arrOf st') (lo + k) < K (arrOf st') i))
      (Q := fun c st'' => st'' = st' ∧ ∃ l r, c = (none, l, r) ∧ l ≤ k ∧
        (∀ i, lo ≤ i → i < lo + l → K (arrOf st') i ≤ K (arrOf st') (lo + k)) ∧ (∀ i, lo + l ≤ i → i < lo + k → K (arrOf st') (lo + k) < K (arrOf st') i)) ?istep ?ifin ?iinit) ?ipost)
    case iinit => exact ⟨rfl, 0, k, rfl, by exact ar_77, by exact ar_220, by exact ar_221, fun i g1 g2 => absurd g1 (by exact ar_222 g2), fun i h1 h2 => absurd h1 (by exact ar_223 h2)⟩
    case ifin =>
      rintro c st'' ⟨rfl, l, r, rfl, hlr, hrk, hm, hlo, hhi⟩
      have : l = r := by exact ar_69 hm hlr
      subst this
      exact ⟨rfl, l, l, rfl, hrk, hlo, hhi⟩
    case istep =>
      rintro x c st'' _ hxk ⟨rfl, l, r, rfl, hlr, hrk, hm, hlo, hhi⟩
      refine wpS_ite (fun g => ?_) fun g => ?_
      · replace g : l ≥ r := g
        have : l = r := by exact Nat.le_antisymm hlr g
        subst this
        exact wpS_pure ⟨rfl, l, l, rfl, hrk, hlo, hhi⟩
      · replace g : ¬ l ≥ r := g
        obtain ⟨mm, em⟩ : ∃ mm, mm = (l + r) / 2 := ⟨_, rfl⟩
        have hm1 : l ≤ mm := by exact ar_224 em hlr
        have hm2 : mm < r := by exact ar_225 em g
        show wpS _ _ _ _ (do let x ← ltAt' (lo + k) (lo + (l + r) / 2); _) _ _
        rw [← em]
        clear em
        refine wpS_bind (wpS_lt6 h0 hB' hk (show lo + mm < a₀.size by exact ar_226 hn hkn hm2 hrk) ?_)
        refine wpS_ite (fun e => ?_) fun e => ?_
        · replace e := of_decide_eq_true e
          exact wpS_pure ⟨rfl, l, mm, rfl, hm1, by exact Nat.le_trans (Nat.le_of_lt hm2) hrk, by exact ar_68 hm hm2, hlo, fun i h1 h2 => Int.lt_of_lt_of_le e (hs' _ _ (Nat.le_add_right _ _) h1 h2)⟩
        · replace e : ¬ K (arrOf st'') (lo + k) < K (arrOf st'') (lo + mm) := fun e' => e (decide_eq_true e')
          exact wpS_pure ⟨rfl, mm + 1, r, rfl, hm2, hrk, by exact ar_66 hm hm1, fun i g1 g2 => Int.le_trans (hs' i (lo + mm) g1 (Nat.le_of_lt_succ g2) (by exact ar_227 hm2 hrk)) (Int.not_lt.mp e), hhi⟩
    case ipost =>
      rintro c st'' ⟨rfl, l, r, rfl, hlk, hlo, hhi⟩
      show wpS _ _ _ _ (do moveDown' (lo + k) (lo + l); pure (ForInStep.yield (none, ()))) _ _
      rw [moveDown'_eq]
      have hks : lo + k < (arrOf st'').size := by rw [hB'.perm.size_eq]; exact hk
      have ek : lo + k - (lo + k - (lo + l)) = lo + l := by exact ar_228 hlk
      refine wpS_bind (wpS_modify (wpS_pure ⟨rfl, ⟨hB'.kind, hB'.failed, hB'.pend, (bubble_perm _ _ _).trans hB'.perm, fun i hi => ?_⟩, ?_⟩))
      · show (bubble (arrOf st'') (lo + k) (lo + k - (lo + l)))[i]? = _
        rw [getElem?_bubble hks _ (by exact ar_229), ek, if_neg (by exact ar_230 hi), if_neg (by exact ar_231 hi)]
        exact hB'.keep i hi
      · rw [show min (k + 1) n = k + 1 by exact Nat.min_eq_left hkn]
        intro i j g1 g2 g3
        show K (bubble (arrOf st'') (lo + k) (lo + k - (lo + l))) i ≤ K (bubble (arrOf st'') (lo + k) (lo + k - (lo + l))) j
        rw [K_bubble hks (by exact ar_229), K_bubble hks (by exact ar_229), ek]
        exact bub_le hlo hhi hs' (Nat.add_le_add_left hlk _) (Nat.le_add_right _ _) g1 g2 (Nat.le_of_lt_succ g3)
end
end Inn
end
section
set_option maxRecDepth 10000
set_option linter.unusedVariables false
namespace Inn
open PySem PyProof.Rows
structure One (a₀ : Array Keyed) (n1 : Nat) (st : SortSt) : Prop where
  kind : kindOf st = oneType'
  failed : failedOf st = none
  pend : pendingOf st = #[(0, n1, 0)]
  perm : (arrOf st).Perm a₀
  srt : SortedTo (arrOf st) n1
structure Two (a₀ : Array Keyed) (n1 n2 pw : Nat) (st : SortSt) : Prop where
  eta : st = SortSt.mk' oneType' (arrOf st) #[(0, n1, pw), (n1, n2, 0)] (gallopOf st) none
  perm : (arrOf st).Perm a₀
  p1 : 0 < n1
  p2 : 0 < n2
  sz : n1 + n2 = a₀.size
  s1 : SS (arrOf st) 0 n1
  s2 : SS (arrOf st) n1 n2
theorem SS.seg {xs : Array Keyed} {lo n : Nat} (h : SS xs lo n) : Seg xs lo (lo + n) := fun i j hi hj g1 g2 g3 => by
  rw [← K_ky hi, ← K_ky hj]; exact h i j g1 g2 g3
theorem Up2.to {xs : Array Keyed} (h : Up2 ky xs) : SortedTo xs xs.size := fun i j hij hj => by
  rw [K_ky (by exact Nat.lt_of_le_of_lt hij hj), K_ky hj]; exact h i j _ _ hij
noncomputable def I7 (a₀ : Array Keyed) (mr x : Nat) (c : Option Unit × Nat) (st : SortSt) : Prop :=
  (x = 0 ∧ c = (none, 0) ∧ SBase a₀ st) ∨ (x = 1 ∧ ∃ n1, c = (none, n1) ∧ mr ≤ n1 ∧ n1 ≤ a₀.size ∧ One a₀ n1 st) ∨ (2 ≤ x ∧ c = (none, a₀.size) ∧ ∃ n1 n2 pw, Two a₀ n1 n2 pw st)
noncomputable def Q7 (a₀ : Array Keyed) (c : Option Unit × Nat) (st : SortSt) : Prop := c.1 = none ∧ (One a₀ a₀.size st ∨ ∃ n1 n2 pw, Two a₀ n1 n2 pw st)
noncomputable def Step7 (a₀ : Array Keyed) (mr x : Nat) : ForInStep (Option Unit × Nat) → SortSt → Prop
  | .done c, st => Q7 a₀ c st
  | .yield c, st => I7 a₀ mr (x + 1) c st
section
variable {prog : Program} {w : World} {A : Around} {E : Value → Shared → Prop} {s : Shared} {a₀ : Array Keyed}
theorem wpS_sort7 {st : SortSt} {Q : Unit → SortSt → Prop} (h0 : IntKeys a₀) (hB : SBase a₀ st) (h64 : 64 ≤ a₀.size) (h128 : a₀.size < 128)
    (h : ∀ st', (arrOf st').Perm a₀ → failedOf st' = none → SortedTo (arrOf st') a₀.size → Q () st') : wpS (model prog w) A E s sortRuns' Q st := by
  rw [sortRuns'_eq]
  refine wpS_bind (wpS_get ?_)
  have hmr : minRun' a₀.size a₀.size 0 = a₀.size / 2 + a₀.size % 2 := by
    obtain ⟨f, hf⟩ : ∃ f, a₀.size = f + 2 := ⟨a₀.size - 2, by exact ar_234 h64⟩
    have : minRun' (f + 2) a₀.size 0 = a₀.size / 2 + a₀.size % 2 := by
      rw [minRun'_succ, if_neg (by exact Nat.not_lt.mpr h64), minRun'_succ, if_pos (by exact Nat.div_lt_of_lt_mul h128), Nat.max_eq_right (Nat.zero_le _)]
    rwa [← hf] at this
  simp -zeta -zetaHave only [hB.size]
  extract_lets -underBinder size mr lo0
  have hmr' : mr = a₀.size / 2 + a₀.size % 2 := hmr
  clear_value mr
  have hm1 : a₀.size ≤ 2 * mr := by exact ar_237 hmr'
  have hm2 : mr < a₀.size := by exact ar_238 h64 hmr'
  have hm3 : 1 ≤ mr := by exact ar_239 h64 hmr'
  clear hmr hmr' h64 h128
  refine wpS_bind (wpS_mono (wpS_forRange (I := I7 a₀ mr) (Q := Q7 a₀) ?step ?fin (.inl ⟨rfl, rfl, hB⟩)) ?post)
  case fin =>
    rintro c st' (⟨hx, _⟩ | ⟨hx, _⟩ | ⟨_, rfl, h2⟩)
    · have : max 0 a₀.size = 0 := hx
      omega
    · have : max 0 a₀.size = 1 := hx
      omega
    · exact ⟨rfl, .inr h2⟩
  case step =>
    intro x c st' _ hx hI
    refine wpS_mono (Q := Step7 a₀ mr x) ?_ (fun r st' h => by cases r <;> exact h)
    obtain (⟨rfl, rfl, hB⟩ | ⟨rfl, n1, rfl, g1, g2, hO⟩ | ⟨hx2, rfl, h2⟩) := hI
    · refine wpS_ite (fun e => absurd e (by show ¬ (0 ≥ a₀.size); exact ar_240 hm2)) fun _ => ?_
      refine wpS_bind (wpS_countRun h0 (Nat.le_refl _) (show 1 ≤ a₀.size by exact ar_241 hm2) hB fun m st2 hB2 q1 q2 hs2 => ?_)
      dsimp -zeta -zetaHave only
      extract_lets -underBinder n jp
      have J : ∀ n1 st', mr ≤ n1 → n1 ≤ a₀.size → SBase a₀ st' → SortedTo (arrOf st') n1 → wpS (model prog w) A E s (jp () n1) (Step7 a₀ mr 0) st' := by
        intro n1 st' g1 g2 hB hs
        refine wpS_bind (wpS_get ?_)
        have hb : (pendingOf st').back? = none := by rw [hB.pend]; rfl
        rw [hb]
        refine wpS_bind (wpS_modify (wpS_pure (.inr (.inl ⟨rfl, n1, ?_, g1, g2, hB.kind, hB.failed, ?_, hB.perm, hs⟩))))
        · show (none, 0 + n1) = _; rw [Nat.zero_add]
        · show (pendingOf st').push (0, n1, 0) = _; rw [hB.pend]; rfl
      clear_value jp
      refine wpS_ite (fun e => ?_) fun e => ?_
      · refine wpS_bind (wpS_lift (wpAny_rule ⟨rfl, ?_⟩))
        have ef : min (a₀.size - 0) mr = mr := by exact ar_242 hm2
        have hf : (have force := min (a₀.size - 0) mr; force) = mr := ef
        refine wpS_bind (wpS_binarySort h0 (show min (a₀.size - 0) mr ≤ a₀.size by exact ar_243) (show m ≤ min (a₀.size - 0) mr by rw [ef]; exact Nat.le_of_lt e) hB2 hs2 fun st3 hB3 hs3 => ?_)
        exact J (min (a₀.size - 0) mr) _ (by exact ar_244 hm2) (by exact ar_243) hB3 hs3
      · exact J m _ (Nat.le_of_not_lt e) (by exact ar_245 q2) hB2 hs2
    · refine wpS_ite (fun e => ?_) fun e => ?_
      · replace e : n1 ≥ a₀.size := e
        have : n1 = a₀.size := by exact Nat.le_antisymm g2 e
        subst this
        exact wpS_pure ⟨rfl, .inl hO⟩
      replace e : n1 < a₀.size := Nat.lt_of_not_le e
      have hB1 : B6 a₀ (arrOf st') n1 #[(0, n1, 0)] st' := ⟨hO.kind, hO.failed, hO.pend, hO.perm, fun _ _ => rfl⟩
      refine wpS_bind (wpS_run6 h0 (show n1 + (a₀.size - n1) ≤ a₀.size by exact ar_246 g2) (show 1 ≤ a₀.size - n1 by exact Nat.sub_pos_of_lt e) hB1 fun m st2 hB2 q1 q2 hs2 => ?_)
      replace q2 : m ≤ a₀.size - n1 := q2
      dsimp -zeta -zetaHave only
      extract_lets -underBinder n jp
      have J : ∀ n2 st2, n2 = a₀.size - n1 → B6 a₀ (arrOf st') n1 #[(0, n1, 0)] st2 → SS (arrOf st2) n1 n2 → wpS (model prog w) A E s (jp () n2) (Step7 a₀ mr 1) st2 := by
        intro n2 st2 hn2 hB2 hs2
        refine wpS_bind (wpS_get ?_)
        have hb : (pendingOf st2).back? = some (0, n1, 0) := by rw [hB2.pend]; rfl
        rw [hb]
        refine wpS_bind (wpS_mono (wpS_forRange (I := fun _ c st'' => st'' = st2 ∧ c = (none, ())) (Q := fun c st'' => st'' = st2 ∧ c = (none, ())) ?s1 (fun _ _ hh => hh) ⟨rfl, rfl⟩) ?s2)
        case s1 =>
          rintro y c st'' _ _ ⟨rfl, rfl⟩
          refine wpS_bind (wpS_get ?_)
          have hz : (if (pendingOf st'').size > 1 then (pendingOf st'')[(pendingOf st'').size - 2]? else none) = none := by rw [hB2.pend]; rfl
          dsimp only
          rw [hz]
          exact wpS_pure ⟨rfl, rfl⟩
        case s2 =>
          rintro c st'' ⟨rfl, rfl⟩
          refine wpS_bind (wpS_modify (wpS_bind (wpS_modify (wpS_pure (.inr (.inr ⟨Nat.le_refl _, ?_, n1, n2, power' a₀.size (2 * 0 + n1) (2 * 0 + n1 + n1 + n2) a₀.size, ?eta, hB2.perm, by exact ar_248 hm2 hm1 g1, by exact ar_249 e hn2, by exact ar_250 hn2 g2, ?_, hs2⟩))))))
          · show (none, n1 + n2) = (none, a₀.size); rw [show n1 + n2 = a₀.size by exact ar_250 hn2 g2]
          case eta =>
            show SortSt.mk' (kindOf st'') (arrOf st'') (((pendingOf st'').modify ((pendingOf st'').size - 1) _).push (n1, n2, 0)) (gallopOf st'') (failedOf st'') = SortSt.mk' oneType' (arrOf st'') _ (gallopOf st'') none
            rw [hB2.kind, hB2.failed, hB2.pend]
            rfl
          · intro i j _ hij hj
            replace hj : j < 0 + n1 := hj
            have k1 : K (arrOf st'') i = K (arrOf st') i := K_congr (hB2.keep i (by exact ar_251 hj hij))
            have k2 : K (arrOf st'') j = K (arrOf st') j := K_congr (hB2.keep j (by exact ar_252 hj))
            show K (arrOf st'') i ≤ K (arrOf st'') j
            rw [k1, k2]; exact hO.srt i j hij (by exact ar_252 hj)
      clear_value jp
      refine wpS_ite (fun e2 => ?_) fun e2 => ?_
      · refine wpS_bind (wpS_lift (wpAny_rule ⟨rfl, ?_⟩))
        have ef : min (a₀.size - n1) mr = a₀.size - n1 := by exact Nat.min_eq_left (Nat.sub_le_of_le_add (Nat.le_trans hm1 (by rw [Nat.two_mul]; exact Nat.add_le_add_left g1 _)))
        refine wpS_bind (wpS_ins6 h0 (show n1 + min (a₀.size - n1) mr ≤ a₀.size by exact Nat.le_trans (Nat.add_le_add_left (Nat.min_le_left _ _) _) (Nat.le_of_eq (Nat.add_sub_cancel' g2))) (show m ≤ min (a₀.size - n1) mr by exact Nat.le_min.mpr ⟨q2, Nat.le_trans q2 (Nat.sub_le_of_le_add (Nat.le_trans hm1 (by rw [Nat.two_mul]; exact Nat.add_le_add_left g1 _)))⟩) hB2 hs2 fun st3 hB3 hs3 => ?_)
        exact J (min (a₀.size - n1) mr) _ ef hB3 hs3
      · replace e2 : ¬ m < mr := e2
        exact J m _ (by exact Nat.le_antisymm q2 (Nat.le_trans (Nat.sub_le_of_le_add (Nat.le_trans hm1 (by rw [Nat.two_mul]; exact Nat.add_le_add_left g1 _))) (Nat.not_lt.mp e2))) hB2 hs2
    · refine wpS_ite (fun e => wpS_pure ⟨rfl, .inr h2⟩) fun e => absurd (Nat.le_refl _) e
  case post =>
    rintro ⟨_, c⟩ st' ⟨rfl, h12⟩
    refine wpS_bind (wpS_mono (wpS_forRange (I := fun x c st'' => c = (none, ()) ∧ ((x = 0 ∧ st'' = st') ∨ ((arrOf st'').Perm a₀ ∧ failedOf st'' = none ∧ SortedTo (arrOf st'') a₀.size ∧ (pendingOf st'').size ≤ 1)))
      (Q := fun c st'' => c = (none, ()) ∧ (arrOf st'').Perm a₀ ∧ failedOf st'' = none ∧ SortedTo (arrOf st'') a₀.size) ?t1 ?t2 ⟨rfl, .inl ⟨rfl, rfl⟩⟩) ?t3)
    case t3 =>
      rintro c st'' ⟨rfl, q1, q2, q3⟩
      exact wpS_pure (h _ q1 q2 q3)
    case t2 =>
      rintro c st'' ⟨rfl, (⟨h1, _⟩ | ⟨q1, q2, q3, q4⟩)⟩
      · have : max 0 a₀.size = 0 := h1
        omega
      · exact ⟨rfl, q1, q2, q3⟩
    case t1 =>
      rintro y c st'' _ _ ⟨rfl, hh⟩
      rcases hh with ⟨rfl, rfl⟩ | ⟨q1, q2, q3, q4⟩
      · rcases h12 with hO | ⟨n1, n2, pw, hT⟩
        · refine wpS_bind (wpS_get ?_)
          refine wpS_ite (fun _ => wpS_pure ⟨rfl, hO.perm, hO.failed, hO.srt⟩) fun e => ?_
          exact absurd (show (pendingOf st'').size ≤ 1 by rw [hO.pend]; exact Nat.le_refl 1) e
        · rw [hT.eta]
          refine wpS_bind (wpS_get ?_)
          refine wpS_ite (fun e => absurd e (by show ¬ (2 ≤ 1); exact Nat.not_succ_le_self 1)) fun e => ?_
          have ik : ∀ i (h : i < (arrOf st'').size), IK (arrOf st'')[i] := fun i hi => by
            exact h0 _ ((Array.perm_iff_toList_perm.mp hT.perm).mem_iff.mp (show (arrOf st'')[i] ∈ (arrOf st'').toList by simp))
          have s1 := hT.s1.seg
          rw [Nat.zero_add] at s1
          refine wpS_bind (wpS_mergeX ik (hT.perm.size_eq.trans hT.sz.symm) s1 hT.s2.seg hT.p1 hT.p2 fun a' g' hp hu => ?_)
          refine wpS_pure ⟨rfl, .inr ⟨hp.trans hT.perm, rfl, ?_, Nat.le_refl 1⟩⟩
          have := hu.to
          rw [(hp.trans hT.perm).size_eq] at this
          exact this
      · refine wpS_bind (wpS_get ?_)
        refine wpS_ite (fun _ => wpS_pure ⟨rfl, q1, q2, q3⟩) fun e => absurd q4 e
end
end Inn
end
section
set_option maxRecDepth 100000
set_option linter.unusedVariables false
namespace Inn
open PySem PyProof.Rows
section
variable {prog : Program} {w : World} {A : Around} {E : Value → Shared → Prop} {s : Shared}
theorem list_sort_big {a : Addr} {vs : List Value} {ns : List Int} {n : Nat} {b : Bool} {P : PySem.Fin → Shared → Prop} (ho : s.heap.get? a = some (seqObj "list" vs.toArray n))
    (hI : IntsAre vs ns) (h1 : 64 ≤ vs.length) (h2 : vs.length < 128)
    (h : ∀ (out : Array Value) (ns' : List Int), IntsAre out.toList ns' → ns'.Perm ns → Ordered b ns' → P (.done (.ret .none)) { s with heap := sortedHeap s.heap a vs out }) :
    wpAny (model prog w) A (Builtin.«list.sort» ⟨[.ref a], [(Str.ofString "reverse", .bool b)]⟩) P E s := by
  rw [list_sort_rev]
  have ha := Heap.lt_size ho
  have hz : vs.toArray.size = vs.length := by simp
  obtain ⟨e1, ho1⟩ : ∃ e1, (s.heap.update a (Obj.mapSeq fun _ => #[])).get? a = some (seqObj "list" #[] e1) := ⟨_, get?_update_seq ho (fun _ => #[])⟩
  have ho2 : (((s.heap.update a (Obj.mapSeq fun _ => #[])).push (seqObj "tuple" vs.toArray 0)).push (seqObj "list" #[] 0)).get? a = some (seqObj "list" #[] e1) := by
    rw [Heap.get?_push_ne, Heap.get?_push_ne, ho1]
    · rw [Heap.size_update]; exact Nat.ne_of_lt ha
    · rw [size_push', Heap.size_update]; exact Nat.ne_of_lt (Nat.lt_succ_of_lt ha)
  refine wpAny_bind (listItems_at ho rfl (wpAny_bind (listUpdate_at ho rfl (wpAny_bind (seqEpoch_at ho1 rfl (wpAny_bind (wpAny_newTuple (wpAny_bind (wpAny_newList (wpAny_holding ?_))))))))))
  have hp0 : (if b = true then (vs.toArray.zip vs.toArray).reverse else vs.toArray.zip vs.toArray).Perm (pairsOf vs) := by
    cases b
    · exact Array.Perm.refl _
    · exact Array.perm_iff_toList_perm.mpr (by rw [if_pos rfl, Array.toList_reverse]; exact List.reverse_perm _)
  obtain ⟨v₁, v₂, rest, rfl⟩ : ∃ v₁ v₂ rest, vs = v₁ :: v₂ :: rest := by
    match vs, h1 with
    | [], h => simp at h
    | [_], h => simp at h
    | v₁ :: v₂ :: rest, _ => exact ⟨v₁, v₂, rest, rfl⟩
  have hn2 : ¬ (v₁ :: v₂ :: rest).toArray.size < 2 := by rw [hz]; exact ar_258 h1
  rw [if_neg hn2, if_neg hn2, keyKind_ints hI]
  have rl : ∀ (t : Sem PySem.Fin) (s1 : Shared), wpAny (model prog w) A t P E s1 → wpAny (model prog w) A (if b = true then (do let _ ← rule "list.sort.reverse"; t) else t) P E s1 := by
    intro t s1 ht
    cases b
    · exact ht
    · exact wpAny_bind (wpAny_rule ht)
  refine rl _ _ (wpAny_bind (wpAny_pure ?_))
  refine wpAny_bind (wpAny_mono (wpS_sort7 (a₀ := pairsOf (v₁ :: v₂ :: rest))
    (st := SortSt.mk' oneType' (if b = true then ((v₁ :: v₂ :: rest).toArray.zip (v₁ :: v₂ :: rest).toArray).reverse else (v₁ :: v₂ :: rest).toArray.zip (v₁ :: v₂ :: rest).toArray) #[] 7 none)
    (Q := fun _ st' => (arrOf st').Perm (pairsOf (v₁ :: v₂ :: rest)) ∧ failedOf st' = none ∧ SortedTo (arrOf st') (pairsOf (v₁ :: v₂ :: rest)).size)
    hI.intKeys ⟨hp0, rfl, rfl, rfl⟩ (by rw [pairsOf_size]; exact h1) (by rw [pairsOf_size]; exact h2) fun st' a1 a2 a3 => ⟨a1, a2, a3⟩) ?_ fun _ _ e => e)
  rintro ⟨⟨⟩, st'⟩ s' ⟨rfl, hp, hf, hs⟩
  dsimp only
  have hsz : ((arrOf st').map (·.2)).size ≤ sizeLine + 1 := by
    rw [Array.size_map, hp.size_eq, pairsOf_size, sizeLine_eq]; exact ar_259 h2
  refine wpAny_bind (seqEpoch_at ho2 rfl (wpAny_bind (listUpdate_at ho2 rfl ?_ (hsz2 := by
    cases b
    · exact hsz
    · rw [if_pos rfl, Array.size_reverse]; exact hsz))))
  rw [hf]
  simp only [bne_self_eq_false, Bool.false_eq_true, if_false]
  obtain ⟨ns', q1, q2, q3⟩ := sorted_out_rev hI hp hs b
  exact wpAny_pure (h _ ns' q1 q2 q3)
theorem list_sort_128 {a : Addr} {vs : List Value} {ns : List Int} {n : Nat} {b : Bool} {P : PySem.Fin → Shared → Prop} (ho : s.heap.get? a = some (seqObj "list" vs.toArray n))
    (hI : IntsAre vs ns) (h2 : vs.length < 128)
    (h : ∀ (out : Array Value) (ns' : List Int), IntsAre out.toList ns' → ns'.Perm ns → Ordered b ns' → P (.done (.ret .none)) { s with heap := sortedHeap s.heap a vs out }) :
    wpAny (model prog w) A (Builtin.«list.sort» ⟨[.ref a], [(Str.ofString "reverse", .bool b)]⟩) P E s := by
  rcases Nat.lt_or_ge vs.length 64 with h1 | h1
  · exact list_sort_tree_rev ho hI h1 h
  · exact list_sort_big ho hI h1 h2 h
end
end Inn
end
section
set_option maxRecDepth 10000
set_option linter.unusedVariables false
namespace Inn
open PySem
variable {prog : Program} {w : World}
noncomputable def refsOf : List AV → Option (List Nat)
  | [] => some []
  | .ref i :: r => (refsOf r).map (i :: ·)
  | _ => none
noncomputable def objsAt (σ : Store) : List Nat → Option (List AO)
  | [] => some []
  | i :: r => (σ[i]?).bind fun o => (objsAt σ r).map (o :: ·)
noncomputable def exportT (σ : Store) (v : AV) (σ' : Store) : Option (AV × Store) := match v with
  | .tup vs => (refsOf vs).bind fun is => (objsAt σ' is).bind fun os =>
      if is.Nodup ∧ (∀ i ∈ is, σ.length ≤ i) ∧ (∀ o ∈ os, o.closed σ.length = true) then some (.tup ((List.range' σ.length is.length).map .ref), σ ++ os) else none
  | _ => none
noncomputable abbrev aFnT := aFnX exportT
theorem refsOf_eq {vs : List AV} {is : List Nat} (e : refsOf vs = some is) : vs = is.map .ref := by
  induction vs generalizing is with
  | nil => cases e; rfl
  | cons v r ih =>
    cases v with
    | ref i =>
      obtain ⟨js, e1, rfl⟩ := map_some' e
      rw [ih e1]; rfl
    | _ => exact nos e
theorem objsAt_get {σ : Store} {is : List Nat} {os : List AO} (e : objsAt σ is = some os) : os.length = is.length ∧ ∀ (k i : Nat), is[k]? = some i → ∃ o, σ[i]? = some o ∧ os[k]? = some o := by
  induction is generalizing os with
  | nil => cases e; exact ⟨rfl, fun k i h => nos h⟩
  | cons j r ih =>
    obtain ⟨o, e1, e⟩ := bind_some' e
    obtain ⟨os', e2, rfl⟩ := map_some' e
    obtain ⟨h1, h2⟩ := ih e2
    refine ⟨congrArg Nat.succ h1, fun k i h => ?_⟩
    cases k with
    | zero => exact ⟨o, Option.some.inj h ▸ e1, rfl⟩
    | succ k => exact h2 k i h
theorem refs_up {h : Heap} {α α' : Nat → Addr} {m N : Nat} {is : List Nat} {items : List Value} {k : Nat} (r : VRs h α m (is.map .ref) items) (ha : ∀ (j i : Nat), is[j]? = some i → α' (k + j) = α i) (hN : k + is.length ≤ N) : VRs h α' N ((List.range' k is.length).map .ref) items := by
  induction is generalizing items k with
  | nil => cases r.nil_inv; exact .nil
  | cons i is ih =>
    obtain ⟨x, xs, rfl, a, b⟩ := r.cons_inv
    have hN : k + (is.length + 1) ≤ N := hN
    refine .cons ?_ (ih b (fun j i' e => (congrArg α' (Nat.add_right_comm k 1 j)).trans (ha (j + 1) i' e)) (by exact ar_260 hN))
    obtain ⟨_, rfl⟩ := a.inv_ref
    exact ha 0 i rfl ▸ .ref (by exact Nat.lt_of_add_right_lt hN)
theorem exp_T : Exp prog w exportT := by
  intro c α α2 ρ σ σ1 h2 u x' v σ' hn r2 ag hvr hm
  cases u with
  | tup vs =>
    obtain ⟨is, e1, hm⟩ := bind_some' hm
    obtain ⟨os, e2, hm⟩ := bind_some' hm
    obtain ⟨⟨hnd, hge, hcl⟩, hm⟩ := ite_some hm
    obtain ⟨rfl, rfl⟩ := Prod.mk.inj (Option.some.inj hm)
    rw [refsOf_eq e1] at hvr
    obtain ⟨hol, hog⟩ := objsAt_get e2
    obtain ⟨a, items, rfl, ea, vr⟩ := hvr.inv_tup
    have hget : ∀ i, σ.length ≤ i → i < (σ ++ os).length → ∃ j o, is[i - σ.length]? = some j ∧ σ1[j]? = some o ∧ (σ ++ os)[i]? = some o ∧ o ∈ os ∧ σ.length ≤ j ∧ j < σ1.length := fun i h1 h2 => by
      rw [List.length_append] at h2
      have h3 : i - σ.length < is.length := by exact ar_262 h2 hol h1
      obtain ⟨o, h4, h5⟩ := hog (i - σ.length) is[i - σ.length] (List.getElem?_eq_getElem h3)
      exact ⟨is[i - σ.length], o, List.getElem?_eq_getElem h3, h4, (List.getElem?_append_right h1).trans h5, List.mem_of_getElem? h5, hge _ (List.getElem_mem _), (List.getElem?_eq_some_iff.mp h4).1⟩
    obtain ⟨α', hag0, hat⟩ : ∃ α' : Nat → Addr, (∀ j, j < σ.length → α' j = α j) ∧ ∀ i j, σ.length ≤ i → is[i - σ.length]? = some j → α' i = α2 j :=
      ⟨fun j => if j < σ.length then α j else α2 (is.getD (j - σ.length) 0), fun j hj => if_pos hj, fun i j h1 h2 => (if_neg (Nat.not_lt.mpr h1)).trans (by rw [List.getD_eq_getElem?_getD, h2]; rfl)⟩
    have hag : ∀ j, j < σ.length → α' j = α2 j := fun j hj => (hag0 j hj).trans (ag j hj).symm
    refine ⟨α', ⟨r2.keep, ⟨os, rfl⟩, hag0, fun i o hi e => ?_, fun i hi hj => ?_, fun i j hi hi' hj hj' e => ?_⟩, .tup ea (refs_up vr (fun j i e => hat (σ.length + j) i (Nat.le_add_right _ _) (by rw [Nat.add_sub_cancel_left]; exact e)) (by rw [List.length_append, hol]; exact Nat.le_refl _))⟩
    · obtain ⟨j, o', h1, h2, h3, h4, h5, h6⟩ := hget i hi (List.getElem?_eq_some_iff.mp e).1
      have e' := Option.some.inj (h3.symm.trans e)
      subst e'
      rw [hat i j hi h1]
      exact (r2.objs j o' h2).restrict (hcl o' h4) hag (by rw [List.length_append]; exact Nat.le_add_right _ _)
    · obtain ⟨j, o', h1, h2, h3, h4, h5, h6⟩ := hget i hi hj
      rw [hat i j hi h1]
      exact r2.own j (hn ▸ h5) h6
    · obtain ⟨x, o1, g1, g2, g3, g4, g5, g6⟩ := hget i hi hi'
      obtain ⟨y, o2, k1, k2, k3, k4, k5, k6⟩ := hget j hj hj'
      rw [hat i x hi g1, hat j y hj k1] at e
      have hxy := r2.inj x y g6 k6 e
      subst hxy
      have l1 := List.getElem?_eq_some_iff.mp g1
      have l2 := List.getElem?_eq_some_iff.mp k1
      have hp := List.pairwise_iff_getElem.mp hnd
      rcases Nat.lt_trichotomy (i - σ.length) (j - σ.length) with h | h | h
      · exact absurd (l1.2.trans l2.2.symm) (hp _ _ l1.1 l2.1 h)
      · exact ar_263 h hi hj
      · exact absurd (l2.2.trans l1.2.symm) (hp _ _ l2.1 l1.1 h)
  | _ => exact nos hm
end Inn
end
section
set_option maxRecDepth 10000
set_option linter.unusedVariables false
namespace Inn
open PySem PySem.W
variable {prog : Program} {w : World}
section
variable {c : Cx} {G : Heap → Prop} {k : Nat}
end
end Inn
end
section
set_option maxRecDepth 100000
set_option linter.unusedVariables false
namespace Inn
open PySem PySem.W
section
variable {prog : Program} {w : World} {A : Around} {E : Value → Shared → Prop} {s : Shared}
open PyProof.Rows in
theorem cut_at {sl : Addr} {b n : Nat} {u : Tok} {Q : Int × Int × Nat → Shared → Prop} (hs : s.heap.IsSliceOf sl .none (.int b u) .none) (hb : b ≤ n) (h : Q ((0 : Int), 1, b) s) :
    wpAny (model prog w) A (Builtin.Slice.sliceApplied (.ref sl) (pure (n : Int))) Q E s := by
  obtain ⟨os, hos, hcs, hds⟩ := id hs
  have e1 : Builtin.Slice.sliceAdjust none (some (b : Int)) 1 (n : Int) = ((0 : Int), (b : Int)) := by
    unfold Builtin.Slice.sliceAdjust
    have h1 : ¬ ((1 : Int) < 0) := by exact Std.Rxo.size_eq_zero_iff_not_le.mp rfl
    have h2 : ¬ ((b : Int) < 0) := by exact ar_265
    simp only [h1, h2, if_false]
    congr 1; exact ar_266 hb
  have e2 : Builtin.Slice.slicePlaces (0 : Int) (b : Int) 1 = b := by
    unfold Builtin.Slice.slicePlaces
    have h1 : (1 : Int) > 0 := by exact Int.one_pos
    simp only [h1, if_true, Int.ediv_one]
    split <;> omega
  unfold Builtin.Slice.sliceApplied Builtin.Slice.sliceFields
  refine wpAny_bind (wpAny_bind (wpAny_field hos hds (x := .none) rfl (wpAny_bind (wpAny_field hos hds (x := .int b u) rfl (wpAny_bind (wpAny_field hos hds (x := .none) rfl (wpAny_pure ?_)))))))
  refine wpAny_bind (slicePart_none ?_)
  show wpAny _ _ (if ((1 : Int) == 0) = true then _ else _) _ _ s
  rw [if_neg (by decide)]
  refine wpAny_bind (slicePart_none (wpAny_bind (slicePart_int (wpAny_bind (wpAny_pure ?_)))))
  show wpAny _ _ (match Builtin.Slice.sliceAdjust none (some (b : Int)) 1 (n : Int) with | (lo, hi) => pure (lo, (1 : Int), Builtin.Slice.slicePlaces lo hi 1)) _ _ s
  rw [e1]
  show wpAny _ _ (pure ((0 : Int), (1 : Int), Builtin.Slice.slicePlaces (0 : Int) (b : Int) 1)) _ _ s
  rw [e2]
  exact wpAny_pure h
open PyProof.Rows in
theorem tup_upto {t sl : Addr} {items : Array Value} {b : Nat} {u : Tok} {Q : Value → Shared → Prop} (ht : IsTup s.heap t items) (hs : s.heap.IsSliceOf sl .none (.int b u) .none) (hb : b < items.size)
    (h : Q (.ref s.heap.objs.size) { s with heap := s.heap.push { cls := .type "tuple", data := .seq (items.toList.take b).toArray } })
    (hsz : items.size ≤ sizeLine) : wpAny (model prog w) A (getItem (.ref t) (.ref sl)) Q E s := by
  have hok : sizeOk (.seq (items.toList.take b).toArray) := by
    show (items.toList.take b).toArray.size ≤ sizeLine
    rw [List.size_toArray, List.length_take, Array.length_toList]
    exact ar_268 hsz
  have hpk : ((List.range b).filterMap fun (k : Nat) => items[((0 : Int) + (k : Int) * 1).toNat]?).toArray = (items.toList.take b).toArray := by
    have e : (fun (k : Nat) => items[((0 : Int) + (k : Int) * 1).toNat]?) = fun k => items[0 + k]? := by
      funext k
      have : ((0 : Int) + (k : Int) * 1).toNat = 0 + k := by exact ar_269
      rw [this]
    have := pick_run items 0 b
    rw [List.filterMap_map] at this
    rw [e]
    exact congrArg List.toArray this
  obtain ⟨os, hos, hcs, hds⟩ := id hs
  have hTs : s.TypeIs (.ref sl) "slice" := ⟨os, hos, hcs⟩
  unfold getItem
  try with_reducible refine wpAny_holding ?_
  first | refine wpAny_bind (wpAny_pure ?_) | skip
  refine wpAny_bind (wpAny_sequenceKey ht.typeIs (by decide) ?_)
  refine wpAny_bind (wpAny_callSpecial?_slot (name := Str.ofString "__getitem__") ht.typeIs slot_tuple_getitem
    (wpAny_call_entry slot_tuple_getitem ht.typeIs entry_tuple_getitem ?_ (args_tuple_getitem _ _)))
  show wpAny _ _ (Builtin.Tuple.tupleItemsOf (.ref t) >>= _) _ _ s
  refine wpAny_bind (tupleItemsOf_ ht (wpAny_bind (wpAny_typeOf hTs ?_)))
  rw [if_pos (by decide)]
  refine wpAny_bind (cut_at hs (Nat.le_of_lt hb) ?_)
  have hno : ¬ (((0 : Int) == 0 && (1 : Int) == 1 && b == items.size) = true) := by
    have : (b == items.size) = false := beq_eq_false_iff_ne.mpr (by exact Nat.ne_of_lt hb)
    rw [this]; simp
  show wpAny _ _ (if ((0 : Int) == 0 && (1 : Int) == 1 && b == items.size) = true then _ else _) _ _ s
  rw [if_neg hno, hpk]
  first
    | exact wpAny_bind (m := Builtin.Tuple.tupleExact _) (wpAny_newObj_type (wpAny_pure ⟨_, rfl, wpAny_pure h⟩) hok)
    | exact wpAny_bind (wpAny_bind (m := Builtin.Tuple.tupleExact _) (wpAny_newObj_type (wpAny_pure ⟨_, rfl, wpAny_pure h⟩) hok))
    | exact wpAny_bind (m := Builtin.Tuple.tupleExact _) (wpAny_newObj_type (wpAny_bind (wpAny_pure (wpAny_pure ⟨_, rfl, wpAny_pure h⟩))) hok)
end
variable {prog : Program} {w : World}
section
variable {c : Cx} {G : Heap → Prop} {k : Nat}
noncomputable def aUpTup (a b : AM AV) : AM AV := aBin (fun x y σ => match x, y with
  | .tup vs, .int k => if 0 ≤ k ∧ k < vs.length ∧ vs.length ≤ 1000 then some (.tup (vs.take k.toNat), σ) else none
  | _, _ => none) a b
set_option tactic.hygienic true in
theorem sim_upTup {e i : Expr} {p pos : Pos} {ma mb : AM AV} (ha : Sim prog w c (eval e c.env) ma) (hb : Sim prog w c (eval i c.env) mb) (ht : ∀ o r, letTemporaryGo e o r = pure ()) :
    Sim prog w c (eval (.Subscript e (.Slice none (some i) none p) pos) c.env) (aUpTup ma mb) := by
  intro ρ σ v σ' α s Q E hm R₀ q
  unfold aUpTup aBin at hm
  obtain ⟨a, σ1, h1, hm⟩ := abind_some (m := ma) hm
  obtain ⟨b, σ2, h2, hm⟩ := abind_some (m := mb) hm
  refine wpAny_Subscript_Slice (T := "tuple") PyProof.Rows.slot_tuple_getitem.lookup (ha _ _ _ _ _ _ _ _ h1 R₀ fun x α1 hh1 tk1 g1 v1 => wpAny_Slice ?_) ht
  rw [evalPart_none, evalPart_some]
  refine wpAny_pure ?_
  refine hb _ _ _ _ _ { s with heap := hh1, toks := tk1 } _ _ h2 (R₀.grow g1) fun y α2 hh2 tk2 g2 v2 => ?_
  have v1' := v1.up g2.up
  dsimp only at hm
  split at hm
  case h_2 => cases hm
  rename_i vs k hm0
  obtain ⟨ad, items, rfl, ea, vr⟩ := v1'.inv_tup
  obtain ⟨t, rfl⟩ := v2.inv_int
  split at hm
  case isFalse => cases hm
  rename_i hk
  cases hm
  obtain ⟨k, rfl⟩ : ∃ j : Nat, k = j := ⟨k.toNat, by exact ar_271 hk⟩
  have hlen := vr.length
  have ht' : PyProof.Rows.IsTup hh2 ad items.toArray := ⟨_, ea, rfl, _, rfl⟩
  have ht2 : PyProof.Rows.IsTup (hh2.push { cls := .type "slice", data := .fields #[.none, .int k t, .none] }) ad items.toArray := ht'.keeps fun _ _ e => Heap.get?_push_of_some _ e
  refine wpAny_pure ⟨ht2.typeIs, tup_upto ht2 (Heap.IsSliceOf.new ..) (by simp; exact ar_272 hk hlen) ?_ (by simp; exact le_sizeLine (by exact ar_273 hk hlen))⟩
  have kk : HK hh2 ((hh2.push { cls := .type "slice", data := .fields #[.none, .int k t, .none] }).push { cls := .type "tuple", data := .seq (items.take k).toArray }) := HK.trans (HK.push _ _) (HK.push _ _)
  have g3 : Grow prog w hh2 α2 σ' ((hh2.push { cls := .type "slice", data := .fields #[.none, .int k t, .none] }).push { cls := .type "tuple", data := .seq (items.take k).toArray }) α2 σ' := Grow.same kk α2 σ'
  refine q _ α2 _ tk2 ((g1.trans g2).trans g3) ?_
  exact .tup (Heap.get?_push_size _ rfl) ((vr.take k).up g3.up)
end
end Inn
end
section
set_option maxRecDepth 100000
set_option linter.unusedVariables false
namespace Inn
open PySem PySem.W
variable {prog : Program} {w : World}
section
variable {c : Cx} {G : Heap → Prop} {k : Nat}
noncomputable def bSortedR : FnM
  | [.ref i], σ => (match σ[i]? with
    | some (.list vs) => (intsOf vs).bind fun ns => if ns.length < 128 then some (.ref σ.length, σ ++ [.list ((sortI ns).reverse.map .int)]) else none
    | _ => none)
  | _, _ => none
open PyProof.Rows in
theorem sortedR_call {A : Around} {E : Value → Shared → Prop} {s : Shared} {l : Addr} {vs : List Value} {ns : List Int} {Q : Value → Shared → Prop} (hl : s.heap.IsList l vs.toArray) (hI : IntsAre vs ns) (h128 : vs.length < 128) (hsl : vs.length ≤ sizeLine)
    (h : ∀ (out : Array Value) (ns' : List Int), IntsAre out.toList ns' → ns'.Perm ns → ns'.Pairwise (· ≥ ·) → Q (.ref (s.heap.objs.size + 1)) { s with heap := sortedAll s.heap vs out }) :
    wpAny (model prog w) A (call (.builtin "sorted") [.ref l] [(Str.ofString "reverse", .bool true)]) Q E s := by
  refine call_function_entry_kw kind_sorted plain_sorted entry_sorted (args_sorted_rev _ _) ?_
  unfold Builtin.«sorted»
  refine wpAny_bind (m := checkCount "sorted" 1 1 _) (wpAny_pure (wpAny_bind (collect_list hl (wpAny_bind (wpAny_newList ?_ hsl)) hsl)))
  have hz : ((s.heap.push (seqObj "list" #[] 0)).update s.heap.objs.size (Obj.mapSeq (· ++ vs.toArray))).objs.size = s.heap.objs.size + 1 := by
    rw [Heap.size_update, size_push']
  have ho : (((s.heap.push (seqObj "list" #[] 0)).update s.heap.objs.size (Obj.mapSeq (· ++ vs.toArray))).push (seqObj "list" vs.toArray 0)).get? (s.heap.objs.size + 1) = some (seqObj "list" vs.toArray 0) := by
    rw [← hz]; exact Heap.get?_push_size _ rfl
  show wpAny _ _ _ _ _ { s with heap := ((s.heap.push (seqObj "list" #[] 0)).update s.heap.objs.size (Obj.mapSeq (· ++ vs.toArray))).push (seqObj "list" vs.toArray 0) }
  rw [hz]
  refine wpAny_bind (wpAny_holding (wpAny_call_entry_kw slot_list_sort ⟨_, ho, rfl⟩ entry_list_sort (list_sort_128 (b := true) ho hI h128 fun out ns' a1 a2 a3 => ⟨_, rfl, ?_⟩) (args_list_sort_rev _ _)))
  exact wpAny_pure ⟨_, rfl, h out ns' a1 a2 a3⟩
set_option tactic.hygienic true in
theorem op_sortedR : OpN prog w c (fun xs => call (.builtin "sorted") xs [(Str.ofString "reverse", .bool true)]) bSortedR := by
  intro vs xs α ρ σ v σ' s Q E hm r hv q
  unfold bSortedR at hm
  split at hm
  case h_2 => cases hm
  rename_i i
  cases hv with
  | cons hv hn =>
  cases hn
  obtain ⟨hi, rfl⟩ := hv.inv_ref
  split at hm
  case h_2 => cases hm
  rename_i vs e1
  obtain ⟨ns, e2, hm⟩ := bind_some' hm
  split at hm
  case isFalse => cases hm
  rename_i h128
  cases hm
  obtain ⟨is, n1, g1, v1, l1⟩ := r.list e1
  have hI := intsAre_of v1 e2
  have hlen : is.length = ns.length := by rw [← v1.length, intsOf_length e2]
  refine sortedR_call (ns := ns) (vs := is) ⟨_, g1, rfl, _, rfl⟩ hI (by exact Nat.lt_of_le_of_lt (Nat.le_of_eq hlen) h128) (le_sizeLine (by exact ar_275 l1)) fun out ns' a1 a2 a3 => ?_
  obtain ⟨ep, hat⟩ := PyProof.Rows.sortedAll_at s.heap is out
  have hnew : s.heap.get? (s.heap.objs.size + 1) = none := by
    cases e : s.heap.get? (s.heap.objs.size + 1) with
    | none => rfl
    | some o => exact absurd (Heap.lt_size e) (Nat.not_lt.mpr (Nat.le_succ _))
  have hs : ns' = (sortI ns).reverse := by
    have h1 : ns'.reverse.Pairwise (· ≤ ·) := by rw [List.pairwise_reverse]; exact a3
    have := eq_sortI ((List.reverse_perm _).trans a2) h1
    rw [← this, List.reverse_reverse]
  subst hs
  have hv' := vrs_ints (h := PyProof.Rows.sortedAll s.heap is out) (α := α) (n := σ.length) a1
  have hll := hv'.length
  have hpl := a2.length_eq
  rw [List.length_map] at hll
  obtain ⟨α', g, v⟩ := grow_list' (prog := prog) (w := w) (h := s.heap) (a := s.heap.objs.size + 1) (ep := ep) (items := out.toList) (fun b o e => PyProof.Rows.sortedAll_old e) hnew (by rw [hat]) hv' (by exact ar_276 h128 hll hpl)
  exact q _ α' _ s.toks g v
theorem sim_sortedR {x : Str} {np pos kp vp : Pos} {kd : Nat} {e : Expr} {m : AM AV} (cx : CxG G k c) (hx : c.env.kindOf x = some .globalImplicit) (hd : (x == ("__debug__" : Str)) = false)
    (g : Gl G x (.builtin "sorted")) (ha : SimA prog w c [e] [m]) (he : starEach [e] c.env = [(false, eval e c.env)] := by rfl) :
    Sim prog w c (eval (.Call (.Name x np) [e] [⟨some (Str.ofString "reverse"), .Constant (.bool true) kd vp, kp⟩] pos) c.env) (aCall bSortedR [m]) := by
  intro ρ σ v σ' α s Q E hm r q
  obtain ⟨vs, σ1, h1, hm⟩ := abind_some hm
  refine wpAny_Call_ofName (load_gl cx hx hd g r ?_)
  have hb : backTo pos (starEach [e] c.env) = (false, eval e c.env) :: backTo pos (starEach [] c.env) := by rw [he]; rfl
  refine PyProof.Rows.callWith_kw (e := e) (rest := []) ?_ hb (by rw [hb]; rfl) rfl rfl
  refine ha pos _ _ _ _ _ _ _ E h1 r fun xs α1 hh1 tk1 g1 v1 => ?_
  refine PyProof.Rows.kws_cons (wpAny_Constant_bool (PyProof.Rows.kws_nil ?_))
  exact op_sortedR _ _ _ _ _ _ _ { s with heap := hh1, toks := tk1 } _ _ hm (r.grow g1) v1 fun z α2 hh2 tk2 g2 v2 => q z α2 hh2 tk2 (g1.trans g2) v2
noncomputable def sRemove (n₀ : Nat) (x : Str) (m : AM AV) : AS := fun ρ σ => (ρ x).bind fun v => match v with
  | .ref i => (match σ[i]? with
    | some (.list vs) => (intsOf vs).bind fun ns => (m ρ σ).bind fun p => match p.1 with
      | .int k => if n₀ ≤ i ∧ k ∈ ns then some (.next, ρ, p.2.set i (.list ((ns.eraseIdx (ns.idxOf k)).map .int))) else none
      | _ => none
    | _ => none)
  | _ => none
theorem ints_cut {xs : List Value} {ns : List Int} (h : PyProof.Rows.IntsAre xs ns) : ∀ j, PyProof.Rows.IntsAre (xs.eraseIdx j) (ns.eraseIdx j) := by
  induction h with
  | nil => intro j; exact .nil
  | cons a t r ih =>
    intro j
    cases j with
    | zero => exact r
    | succ j => exact .cons a t (ih j)
theorem ints_at {xs : List Value} {ns : List Int} (h : PyProof.Rows.IntsAre xs ns) : ∀ (j : Nat) (hj : j < xs.length) (hj' : j < ns.length), ∃ t, xs[j] = .int ns[j] t := by
  induction h with
  | nil => intro j hj; simp at hj
  | cons a t r ih =>
    intro j hj hj'
    cases j with
    | zero => exact ⟨t, rfl⟩
    | succ j => simpa using ih j (by simpa using hj) (by simpa using hj')
set_option tactic.hygienic true in
theorem simS_remove {x : Str} {np apos pos spos : Pos} {e : Expr} {m : AM AV} (cx : CxG G k c) (hv : isVar (c.env.kindOf x) = true) (hn : okName x = true) (hint : interactive c.env = false) (hsw : swapsWith (.Call (.Attribute (.Name x np) "remove" apos) [e] [] pos) none spos.line c.env = pure false) (hline : (apos.endLine == pos.line) = true)
    (he : starEach [e] c.env = [(false, eval e c.env)]) (h : Sim prog w c (eval e c.env) m) :
    SimS prog w c (exec (.Expr (.Call (.Attribute (.Name x np) "remove" apos) [e] [] pos) spos) c.env) (sRemove c.n₀ x m) := by
  intro ρ σ f ρ' σ' α s Q E hm r q
  obtain ⟨v, h1, hm⟩ := bind_some' hm
  split at hm
  case h_2 => cases hm
  rename_i i
  split at hm
  case h_2 => cases hm
  rename_i vs e1
  obtain ⟨ns, e2, hm⟩ := bind_some' hm
  obtain ⟨⟨u, σ1⟩, h2, hm⟩ := bind_some' hm
  dsimp only at hm
  split at hm
  case h_2 => cases hm
  rename_i uu kk
  split at hm
  case isFalse => cases hm
  rename_i hb
  cases hm
  refine wpAny_Expr_any ?_ hint hsw
  have ht : backTo pos (starEach [e] c.env) = [(false, eval e c.env)] := by rw [he]; rfl
  refine wpAny_Call_method (T := "list") (id := "list.remove") rfl (by rw [ht]; rfl) hline F.plainAttrs_list F.slot_list_remove F.type_list_remove ?_
  refine sim_name (c := c) (prog := prog) (w := w) cx hv hn ρ σ (.ref i) σ α s _ _ (by simp [aName, h1]) r fun y α1 hh1 tk1 g1 v1 => ?_
  obtain ⟨hi1, rfl⟩ := v1.inv_ref
  have r1 := r.grow g1
  obtain ⟨is, n1, o1, v1', l1⟩ := r1.list e1
  refine ⟨⟨_, o1, rfl⟩, fun a ha => ?_, ?_⟩
  · cases ha; exact ⟨_, o1, rfl⟩
  rw [ht]
  refine P.remove_list (h _ _ _ _ _ { s with heap := hh1, toks := tk1 } _ _ h2 r1 fun z α2 hh2 tk2 g2 v2 => ?_)
  obtain ⟨t, rfl⟩ := v2.inv_int
  have r2 := r1.grow g2
  have o2 := g2.keep _ _ o1
  have hα : α2 i = α1 i := g2.agree i hi1
  have hI := intsAre_of v1' e2
  have hlen : is.length = ns.length := by rw [← v1'.length, intsOf_length e2]
  have hj : ns.idxOf kk < ns.length := List.idxOf_lt_length_of_mem hb.2
  have hj' : ns.idxOf kk < is.toArray.size := by simp; exact Nat.lt_of_lt_of_le hj (Nat.le_of_eq hlen.symm)
  refine ⟨is.toArray, n1, hits kk, ns.idxOf kk, hj', le_sizeLine (by simpa using l1), o2, fun y hy => ?_, ?_, fun m' hm' hlt => ?_, ?_⟩
  · obtain ⟨j, hj, rfl⟩ := List.mem_iff_getElem.mp (show y ∈ is by simpa using hy)
    obtain ⟨u, e⟩ := ints_at hI j hj (by exact Nat.lt_of_lt_of_eq hj hlen)
    rw [e]; exact MeetsSeq.EqGives.int _ _ _ _
  · obtain ⟨u, e⟩ := ints_at hI (ns.idxOf kk) (by exact Nat.lt_of_lt_of_le hj (Nat.le_of_eq hlen.symm)) hj
    have e' : is.toArray[ns.idxOf kk] = is[ns.idxOf kk] := by simp
    rw [e', e, List.getElem_idxOf hj]; simp [hits]
  · have hm2 : m' < is.length := by simpa using hm'
    obtain ⟨u, e⟩ := ints_at hI m' hm2 (by exact Nat.lt_of_lt_of_le hlt (Nat.le_of_lt hj))
    have e' : is.toArray[m'] = is[m'] := by simp
    rw [e', e]
    have := List.not_of_lt_findIdx (p := (· == kk)) hlt
    simpa [hits] using this
  · have hs3 := Heap.SameBut.update hh2 (α1 i) (Obj.mapSeq fun xs => xs.eraseIdxIfInBounds (ns.idxOf kk))
    have hD := IsL.update (n := n1) o2 (fun xs => xs.eraseIdxIfInBounds (ns.idxOf kk))
    have hi2 : i < σ1.length := Nat.lt_of_lt_of_le hi1 g2.len
    have vk3 : VK hh2 (hh2.update (α1 i) (Obj.mapSeq fun xs => xs.eraseIdxIfInBounds (ns.idxOf kk))) := fun b o e f => hs3.extBut b o (fun q => by
      subst q; rw [o2] at e; cases e
      rcases f with ⟨f, _⟩ | ⟨f | f, _⟩ <;> simp at f) e
    have hor : OR prog w (hh2.update (α1 i) (Obj.mapSeq fun xs => xs.eraseIdxIfInBounds (ns.idxOf kk))) α2 σ1.length (.list ((ns.eraseIdx (ns.idxOf kk)).map .int)) (α2 i) := by
      rw [hα]
      have ea : is.toArray.eraseIdxIfInBounds (ns.idxOf kk) = (is.eraseIdx (ns.idxOf kk)).toArray := by
        apply Array.toList_inj.mp
        simp [Array.toList_eraseIdxIfInBounds]
      have hD' := hD
      rw [ea] at hD'
      refine .list (items := is.eraseIdx (ns.idxOf kk)) hD' (vrs_ints (ints_cut hI _)) ?_
      have := List.length_eraseIdx_le is (ns.idxOf kk)
      exact Nat.le_trans this l1
    obtain ⟨r3, u3, fk3'⟩ := r2.change cx.ok hi2 hb.1 (by rw [hα]; exact hs3) hor
    exact q _ α2 _ tk2 r3 ((g1.up.trans g2.up).trans u3) ((g1.fk.trans g2.fk).trans fk3') .next
end
end Inn
end
section
set_option maxRecDepth 10000
set_option linter.unusedVariables false
namespace Inn
open PySem
noncomputable def wA {β : Type} (m : AM β) (ρ : AEnv) (σ : Store) (Q : β → Store → Prop) : Prop := ∃ v σ', m ρ σ = some (v, σ') ∧ Q v σ'
noncomputable def wS (m : AS) (ρ : AEnv) (σ : Store) (Q : AF → AEnv → Store → Prop) : Prop := ∃ f ρ' σ', m ρ σ = some (f, ρ', σ') ∧ Q f ρ' σ'
noncomputable def wF (F : FnM) (vs : List AV) (σ : Store) (Q : AV → Store → Prop) : Prop := ∃ v σ', F vs σ = some (v, σ') ∧ Q v σ'
theorem wA.mono {β : Type} {m : AM β} {ρ σ} {Q Q' : β → Store → Prop} (h : wA m ρ σ Q) (q : ∀ v σ', Q v σ' → Q' v σ') : wA m ρ σ Q' := by
  obtain ⟨v, σ', e, hq⟩ := h; exact ⟨v, σ', e, q _ _ hq⟩
theorem wS.mono {m : AS} {ρ σ} {Q Q' : AF → AEnv → Store → Prop} (h : wS m ρ σ Q) (q : ∀ f ρ' σ', Q f ρ' σ' → Q' f ρ' σ') : wS m ρ σ Q' := by
  obtain ⟨f, ρ', σ', e, hq⟩ := h; exact ⟨f, ρ', σ', e, q _ _ _ hq⟩
theorem wA_pure {β : Type} {v : β} {ρ σ Q} : wA (apure v) ρ σ Q ↔ Q v σ := by
  constructor
  · rintro ⟨v, σ', e, q⟩; cases e; exact q
  · intro q; exact ⟨_, _, rfl, q⟩
theorem wA_bind {β γ : Type} {m : AM β} {k : β → AM γ} {ρ σ Q} : wA (abind m k) ρ σ Q ↔ wA m ρ σ fun v σ1 => wA (k v) ρ σ1 Q := by
  constructor
  · rintro ⟨v, σ', e, q⟩
    obtain ⟨a, σ1, e1, e2⟩ := abind_some e
    exact ⟨a, σ1, e1, v, σ', e2, q⟩
  · rintro ⟨a, σ1, e1, v, σ', e2, q⟩
    exact ⟨v, σ', by simp [abind, e1, e2], q⟩
theorem wA_bind_e {β γ : Type} {m : AM β} {k : β → AM γ} {ρ σ Q} : (wA (abind m k) ρ σ Q) = (wA m ρ σ fun v σ1 => wA (k v) ρ σ1 Q) := propext (wA_bind)
theorem wA_int {i ρ σ Q} : wA (aInt i) ρ σ Q ↔ Q (.int i) σ := wA_pure
theorem wA_int_e {i ρ σ Q} : (wA (aInt i) ρ σ Q) = (Q (.int i) σ) := propext (wA_int)
theorem wA_bool {i ρ σ Q} : wA (aBool i) ρ σ Q ↔ Q (.bool i) σ := wA_pure
theorem wA_bool_e {i ρ σ Q} : (wA (aBool i) ρ σ Q) = (Q (.bool i) σ) := propext (wA_bool)
theorem wA_none {ρ σ Q} : wA aNone ρ σ Q ↔ Q .none σ := wA_pure
theorem wA_none_e {ρ σ Q} : (wA aNone ρ σ Q) = (Q .none σ) := propext (wA_none)
theorem wA_name {x ρ σ Q} {v : AV} (h : ρ x = some v) : wA (aName x) ρ σ Q ↔ Q v σ := by
  constructor
  · rintro ⟨v, σ', e, q⟩; simp only [aName, h, Option.map_some] at e; cases e; exact q
  · intro q; exact ⟨v, σ, by simp [aName, h], q⟩
theorem wA_here {x : Str} {ρ : AEnv} {σ Q} {v : AV} : wA (aName x) (upd ρ x v) σ Q ↔ Q v σ := wA_name (by simp [upd])
theorem wA_here_e {x : Str} {ρ : AEnv} {σ Q} {v : AV} : (wA (aName x) (upd ρ x v) σ Q) = (Q v σ) := propext (wA_here)
theorem wA_there {x y : Str} {ρ : AEnv} {σ Q} {v : AV} (h : ¬ (x = y)) : wA (aName x) (upd ρ y v) σ Q ↔ wA (aName x) ρ σ Q := by simp [wA, aName, upd, h]
theorem wA_there_e {x y : Str} {ρ : AEnv} {σ Q} {v : AV} (h : ¬ (x = y)) : (wA (aName x) (upd ρ y v) σ Q) = (wA (aName x) ρ σ Q) := propext (wA_there h)
noncomputable def w2 (f : AV → AV → Store → Option (AV × Store)) (a b : AV) (σ : Store) (Q : AV → Store → Prop) : Prop := ∃ v σ', f a b σ = some (v, σ') ∧ Q v σ'
noncomputable def wC (f : AV → AV → Store → Option Bool) (a b : AV) (σ : Store) (Q : Bool → Prop) : Prop := ∃ v, f a b σ = some v ∧ Q v
theorem wA_bin {f a b ρ σ Q} : wA (aBin f a b) ρ σ Q ↔ wA a ρ σ fun x σ1 => wA b ρ σ1 fun y σ2 => w2 f x y σ2 Q := by
  unfold aBin
  rw [wA_bind]; simp only [wA_bind_e]; rfl
theorem wA_bin_e {f a b ρ σ Q} : (wA (aBin f a b) ρ σ Q) = (wA a ρ σ fun x σ1 => wA b ρ σ1 fun y σ2 => w2 f x y σ2 Q) := propext (wA_bin)
theorem wA_fn {β : Type} {g : Store → Option (β × Store)} {ρ σ Q} : wA (fun _ σ => g σ) ρ σ Q ↔ ∃ v σ', g σ = some (v, σ') ∧ Q v σ' := Iff.rfl
theorem wA_cmp {f a b ρ σ Q} : wA (aCmp f a b) ρ σ Q ↔ wA a ρ σ fun x σ1 => wA b ρ σ1 fun y σ2 => wC f x y σ2 fun t => Q (.bool t) σ2 := by
  unfold aCmp
  rw [wA_bind]; simp only [wA_bind_e]
  simp only [wA, wC, Option.map_eq_some_iff]
  constructor
  · rintro ⟨v, s1, e1, u, s2, e2, z, s3, ⟨t, e3, e4⟩, q⟩; cases e4; exact ⟨v, s1, e1, u, _, e2, _, e3, q⟩
  · rintro ⟨v, s1, e1, u, s2, e2, t, e3, q⟩; exact ⟨v, s1, e1, u, s2, e2, _, _, ⟨t, e3, rfl⟩, q⟩
theorem wA_cmp_e {f a b ρ σ Q} : (wA (aCmp f a b) ρ σ Q) = (wA a ρ σ fun x σ1 => wA b ρ σ1 fun y σ2 => wC f x y σ2 fun t => Q (.bool t) σ2) := propext (wA_cmp)
theorem wA_bcmp {f a b ρ σ Q} : wA (bCmp f a b) ρ σ Q ↔ wA a ρ σ fun x σ1 => wA b ρ σ1 fun y σ2 => wC f x y σ2 fun t => Q t σ2 := by
  unfold bCmp
  rw [wA_bind]; simp only [wA_bind_e]
  simp only [wA, wC, Option.map_eq_some_iff]
  constructor
  · rintro ⟨v, s1, e1, u, s2, e2, z, s3, ⟨t, e3, e4⟩, q⟩; cases e4; exact ⟨v, s1, e1, u, _, e2, _, e3, q⟩
  · rintro ⟨v, s1, e1, u, s2, e2, t, e3, q⟩; exact ⟨v, s1, e1, u, s2, e2, _, _, ⟨t, e3, rfl⟩, q⟩
theorem wA_bcmp_e {f a b ρ σ Q} : (wA (bCmp f a b) ρ σ Q) = (wA a ρ σ fun x σ1 => wA b ρ σ1 fun y σ2 => wC f x y σ2 fun t => Q t σ2) := propext (wA_bcmp)
theorem wA_bval {m ρ σ Q} : wA (bVal m) ρ σ Q ↔ wA m ρ σ fun v σ1 => ∃ b, aTruth v = some b ∧ Q b σ1 := by
  unfold bVal; rw [wA_bind]
  simp only [wA, Option.map_eq_some_iff]
  constructor
  · rintro ⟨v, s1, e1, u, s2, ⟨b, e2, e3⟩, q⟩; cases e3; exact ⟨v, _, e1, _, e2, q⟩
  · rintro ⟨v, s1, e1, b, e2, q⟩; exact ⟨v, s1, e1, _, _, ⟨b, e2, rfl⟩, q⟩
theorem wA_bval_e {m ρ σ Q} : (wA (bVal m) ρ σ Q) = (wA m ρ σ fun v σ1 => ∃ b, aTruth v = some b ∧ Q b σ1) := propext (wA_bval)
theorem wA_bnot {m ρ σ Q} : wA (bNot m) ρ σ Q ↔ wA m ρ σ fun v σ1 => Q (!v) σ1 := by
  unfold bNot; rw [wA_bind]
  simp only [wA, Option.some.injEq, Prod.mk.injEq]
  constructor
  · rintro ⟨v, s1, e1, u, s2, ⟨rfl, rfl⟩, q⟩; exact ⟨v, _, e1, q⟩
  · rintro ⟨v, s1, e1, q⟩; exact ⟨v, s1, e1, _, _, ⟨rfl, rfl⟩, q⟩
theorem wA_bnot_e {m ρ σ Q} : (wA (bNot m) ρ σ Q) = (wA m ρ σ fun v σ1 => Q (!v) σ1) := propext (wA_bnot)
theorem wA_not {m ρ σ Q} : wA (aNot m) ρ σ Q ↔ wA m ρ σ fun v σ1 => ∃ b, aTruth v = some b ∧ Q (.bool (!b)) σ1 := by
  unfold aNot; rw [wA_bind]
  simp only [wA, Option.map_eq_some_iff]
  constructor
  · rintro ⟨v, s1, e1, u, s2, ⟨b, e2, e3⟩, q⟩; cases e3; exact ⟨v, _, e1, _, e2, q⟩
  · rintro ⟨v, s1, e1, b, e2, q⟩; exact ⟨v, s1, e1, _, _, ⟨b, e2, rfl⟩, q⟩
theorem wA_not_e {m ρ σ Q} : (wA (aNot m) ρ σ Q) = (wA m ρ σ fun v σ1 => ∃ b, aTruth v = some b ∧ Q (.bool (!b)) σ1) := propext (wA_not)
theorem wA_neg {m ρ σ Q} : wA (aNeg m) ρ σ Q ↔ wA m ρ σ fun v σ1 => ∃ i, v = .int i ∧ Q (.int (-i)) σ1 := by
  unfold aNeg; rw [wA_bind]
  simp only [wA]
  constructor
  · rintro ⟨v, s1, e1, u, s2, e2, q⟩
    split at e2
    · cases e2; exact ⟨_, _, e1, _, rfl, q⟩
    · cases e2
  · rintro ⟨v, s1, e1, i, rfl, q⟩; exact ⟨_, s1, e1, _, _, rfl, q⟩
theorem wA_neg_e {m ρ σ Q} : (wA (aNeg m) ρ σ Q) = (wA m ρ σ fun v σ1 => ∃ i, v = .int i ∧ Q (.int (-i)) σ1) := propext (wA_neg)
theorem wA_band_nil {ρ σ Q} : wA (bAnd []) ρ σ Q ↔ Q true σ := wA_pure
theorem wA_band_nil_e {ρ σ Q} : (wA (bAnd []) ρ σ Q) = (Q true σ) := propext (wA_band_nil)
theorem wA_band_cons {m ms ρ σ Q} : wA (bAnd (m :: ms)) ρ σ Q ↔ wA m ρ σ fun b σ1 => if b then wA (bAnd ms) ρ σ1 Q else Q false σ1 := by
  rw [bAnd, wA_bind]
  constructor <;> intro h <;> refine h.mono fun b σ1 h => ?_ <;> cases b <;> simpa [wA_pure] using h
theorem wA_band_cons_e {m ms ρ σ Q} : (wA (bAnd (m :: ms)) ρ σ Q) = (wA m ρ σ fun b σ1 => if b then wA (bAnd ms) ρ σ1 Q else Q false σ1) := propext (wA_band_cons)
theorem wA_bor_nil {ρ σ Q} : wA (bOr []) ρ σ Q ↔ Q false σ := wA_pure
theorem wA_bor_nil_e {ρ σ Q} : (wA (bOr []) ρ σ Q) = (Q false σ) := propext (wA_bor_nil)
theorem wA_bor_cons {m ms ρ σ Q} : wA (bOr (m :: ms)) ρ σ Q ↔ wA m ρ σ fun b σ1 => if b then Q true σ1 else wA (bOr ms) ρ σ1 Q := by
  rw [bOr, wA_bind]
  constructor <;> intro h <;> refine h.mono fun b σ1 h => ?_ <;> cases b <;> simpa [wA_pure] using h
theorem wA_bor_cons_e {m ms ρ σ Q} : (wA (bOr (m :: ms)) ρ σ Q) = (wA m ρ σ fun b σ1 => if b then Q true σ1 else wA (bOr ms) ρ σ1 Q) := propext (wA_bor_cons)
theorem wA_vand1 {m ρ σ Q} : wA (vAnd [m]) ρ σ Q ↔ wA m ρ σ Q := by rw [vAnd]
theorem wA_vand1_e {m ρ σ Q} : (wA (vAnd [m]) ρ σ Q) = (wA m ρ σ Q) := propext (wA_vand1)
theorem wA_vand {m m' ms ρ σ Q} : wA (vAnd (m :: m' :: ms)) ρ σ Q ↔ wA m ρ σ fun v σ1 => ∃ b, aTruth v = some b ∧ if b then wA (vAnd (m' :: ms)) ρ σ1 Q else Q v σ1 := by
  rw [vAnd, wA_bind]
  constructor
  · intro h; refine h.mono fun v σ1 h => ?_
    obtain ⟨u, s2, e, q⟩ := h
    obtain ⟨b, e1, e2⟩ := bind_some' e
    refine ⟨b, e1, ?_⟩
    cases b with
    | false => simp only [Bool.false_eq_true, if_false] at e2 ⊢; cases e2; exact q
    | true => simp only [if_true] at e2 ⊢; exact ⟨u, s2, e2, q⟩
  · intro h; refine h.mono fun v σ1 h => ?_
    obtain ⟨b, e1, h⟩ := h
    cases b with
    | false => exact ⟨v, σ1, by simp [e1], by simpa using h⟩
    | true =>
      simp only [if_true] at h
      obtain ⟨u, s2, e2, q⟩ := h
      exact ⟨u, s2, by simp [e1, e2], q⟩
  · simp
theorem wA_vand_e {m m' ms ρ σ Q} : (wA (vAnd (m :: m' :: ms)) ρ σ Q) = (wA m ρ σ fun v σ1 => ∃ b, aTruth v = some b ∧ if b then wA (vAnd (m' :: ms)) ρ σ1 Q else Q v σ1) := propext (wA_vand)
theorem wA_args_nil {ρ σ Q} : wA (aArgs []) ρ σ Q ↔ Q [] σ := wA_pure
theorem wA_args_nil_e {ρ σ Q} : (wA (aArgs []) ρ σ Q) = (Q [] σ) := propext (wA_args_nil)
theorem wA_args_cons {m ms ρ σ Q} : wA (aArgs (m :: ms)) ρ σ Q ↔ wA m ρ σ fun v σ1 => wA (aArgs ms) ρ σ1 fun vs σ2 => Q (v :: vs) σ2 := by
  rw [aArgs, wA_bind]; simp only [wA_bind_e, wA_pure]
theorem wA_args_cons_e {m ms ρ σ Q} : (wA (aArgs (m :: ms)) ρ σ Q) = (wA m ρ σ fun v σ1 => wA (aArgs ms) ρ σ1 fun vs σ2 => Q (v :: vs) σ2) := propext (wA_args_cons)
theorem wA_call {F ms ρ σ Q} : wA (aCall F ms) ρ σ Q ↔ wA (aArgs ms) ρ σ fun vs σ1 => wF F vs σ1 Q := by
  unfold aCall; rw [wA_bind]; rfl
theorem wA_call_e {F ms ρ σ Q} : (wA (aCall F ms) ρ σ Q) = (wA (aArgs ms) ρ σ fun vs σ1 => wF F vs σ1 Q) := propext (wA_call)
theorem wA_list {ms ρ σ Q} : wA (aList ms) ρ σ Q ↔ wA (aArgs ms) ρ σ fun vs σ1 => vs.length ≤ 1000000 ∧ Q (.ref σ1.length) (σ1 ++ [.list vs]) := by
  unfold aList; rw [wA_bind]
  constructor <;> intro h <;> refine h.mono fun vs σ1 h => ?_
  · obtain ⟨v, s, e, q⟩ := h
    split at e
    · cases e; exact ⟨by assumption, q⟩
    · cases e
  · exact ⟨_, _, by simp [h.1], h.2⟩
theorem wA_list_e {ms ρ σ Q} : (wA (aList ms) ρ σ Q) = (wA (aArgs ms) ρ σ fun vs σ1 => vs.length ≤ 1000000 ∧ Q (.ref σ1.length) (σ1 ++ [.list vs])) := propext (wA_list)
theorem wA_tup {ms ρ σ Q} : wA (aTup ms) ρ σ Q ↔ wA (aArgs ms) ρ σ fun vs σ1 => vs.length ≤ 1000000 ∧ Q (.tup vs) σ1 := by
  unfold aTup; rw [wA_bind]
  constructor <;> intro h <;> refine h.mono fun vs σ1 h => ?_
  · obtain ⟨v, s, e, q⟩ := h
    split at e
    · cases e; exact ⟨by assumption, q⟩
    · cases e
  · exact ⟨_, _, by simp [h.1], h.2⟩
theorem wA_tup_e {ms ρ σ Q} : (wA (aTup ms) ρ σ Q) = (wA (aArgs ms) ρ σ fun vs σ1 => vs.length ≤ 1000000 ∧ Q (.tup vs) σ1) := propext (wA_tup)
theorem wA_sub {a b ρ σ Q} : wA (aSub a b) ρ σ Q ↔ wA a ρ σ fun x σ1 => wA b ρ σ1 fun y σ2 => w2 getI x y σ2 Q := wA_bin
theorem wA_sub_e {a b ρ σ Q} : (wA (aSub a b) ρ σ Q) = (wA a ρ σ fun x σ1 => wA b ρ σ1 fun y σ2 => w2 getI x y σ2 Q) := propext (wA_sub)
theorem wA_isi {T m ρ σ Q} : wA (aIsi T m) ρ σ Q ↔ wA m ρ σ fun v σ1 => ∃ b, isi T v σ1 = some b ∧ Q (.bool b) σ1 := by
  unfold aIsi; rw [wA_bind]
  simp only [wA, Option.map_eq_some_iff]
  constructor
  · rintro ⟨v, s1, e1, u, s2, ⟨b, e2, e3⟩, q⟩; cases e3; exact ⟨v, _, e1, _, e2, q⟩
  · rintro ⟨v, s1, e1, b, e2, q⟩; exact ⟨v, s1, e1, _, _, ⟨b, e2, rfl⟩, q⟩
theorem wA_isi_e {T m ρ σ Q} : (wA (aIsi T m) ρ σ Q) = (wA m ρ σ fun v σ1 => ∃ b, isi T v σ1 = some b ∧ Q (.bool b) σ1) := propext (wA_isi)
theorem wA_comp {x src t m ρ σ Q} : wA (aComp x src t m) ρ σ Q ↔ wA src ρ σ fun v σ1 => ∃ vs us, itemsOf v σ1 = some vs ∧ compItems x t m ρ σ1 vs = some us ∧ Q (.ref σ1.length) (σ1 ++ [.list us]) := by
  unfold aComp; rw [wA_bind]
  constructor <;> intro h <;> refine h.mono fun v σ1 h => ?_
  · obtain ⟨u, s, e, q⟩ := h
    obtain ⟨vs, e1, e⟩ := bind_some' e
    obtain ⟨us, e2, e⟩ := bind_some' e
    cases e; exact ⟨vs, us, e1, e2, q⟩
  · obtain ⟨vs, us, e1, e2, q⟩ := h
    exact ⟨_, _, by simp [e1, e2], q⟩
theorem wS_nil {ρ σ Q} : wS sNil ρ σ Q ↔ Q .next ρ σ := by
  constructor
  · rintro ⟨f, ρ', σ', e, q⟩; cases e; exact q
  · intro q; exact ⟨_, _, _, rfl, q⟩
theorem wS_nil_e {ρ σ Q} : (wS sNil ρ σ Q) = (Q .next ρ σ) := propext (wS_nil)
noncomputable def thenS (b : AS) (Q : AF → AEnv → Store → Prop) : AF → AEnv → Store → Prop
  | .next, ρ, σ => wS b ρ σ Q
  | .ret v, ρ, σ => Q (.ret v) ρ σ
theorem wS_seq {a b ρ σ Q} : wS (sSeq a b) ρ σ Q ↔ wS a ρ σ (thenS b Q) := by
  constructor
  · rintro ⟨f, ρ', σ', e, q⟩
    obtain ⟨⟨f1, ρ1, σ1⟩, e1, e2⟩ := bind_some' e
    refine ⟨f1, ρ1, σ1, e1, ?_⟩
    cases f1 with
    | next => exact ⟨f, ρ', σ', e2, q⟩
    | ret v => cases e2; exact q
  · rintro ⟨f1, ρ1, σ1, e1, q⟩
    cases f1 with
    | next => obtain ⟨f, ρ', σ', e2, q⟩ := q; exact ⟨f, ρ', σ', by simp [sSeq, e1, e2], q⟩
    | ret v => exact ⟨_, _, _, by simp [sSeq, e1], q⟩
theorem wS_seq_e {a b ρ σ Q} : (wS (sSeq a b) ρ σ Q) = (wS a ρ σ (thenS b Q)) := propext (wS_seq)
theorem wS_assign {x m ρ σ Q} : wS (sAssign x m) ρ σ Q ↔ wA m ρ σ fun v σ1 => Q .next (upd ρ x v) σ1 := by
  constructor
  · rintro ⟨f, ρ', σ', e, q⟩
    obtain ⟨⟨v, σ1⟩, e1, e2⟩ := bind_some' e
    cases e2; exact ⟨v, _, e1, q⟩
  · rintro ⟨v, σ1, e, q⟩
    exact ⟨_, _, _, by simp [sAssign, e], q⟩
theorem wS_assign_e {x m ρ σ Q} : (wS (sAssign x m) ρ σ Q) = (wA m ρ σ fun v σ1 => Q .next (upd ρ x v) σ1) := propext (wS_assign)
theorem wS_ret {m ρ σ Q} : wS (sRet m) ρ σ Q ↔ wA m ρ σ fun v σ1 => Q (.ret v) ρ σ1 := by
  constructor
  · rintro ⟨f, ρ', σ', e, q⟩
    obtain ⟨⟨v, σ1⟩, e1, e2⟩ := bind_some' e
    cases e2; exact ⟨v, _, e1, q⟩
  · rintro ⟨v, σ1, e, q⟩
    exact ⟨_, _, _, by simp [sRet, e], q⟩
theorem wS_ret_e {m ρ σ Q} : (wS (sRet m) ρ σ Q) = (wA m ρ σ fun v σ1 => Q (.ret v) ρ σ1) := propext (wS_ret)
theorem wS_if {t a b ρ σ Q} : wS (sIf t a b) ρ σ Q ↔ wA t ρ σ fun v σ1 => if v then wS a ρ σ1 Q else wS b ρ σ1 Q := by
  constructor
  · rintro ⟨f, ρ', σ', e, q⟩
    obtain ⟨⟨v, σ1⟩, e1, e2⟩ := bind_some' e
    refine ⟨v, σ1, e1, ?_⟩
    cases v with
    | true => exact ⟨f, ρ', σ', e2, q⟩
    | false => exact ⟨f, ρ', σ', e2, q⟩
  · rintro ⟨v, σ1, e, q⟩
    cases v with
    | true => obtain ⟨f, ρ', σ', e2, q⟩ := q; exact ⟨_, _, _, by simp only [sIf, e, Option.bind_some, if_true, e2], q⟩
    | false => obtain ⟨f, ρ', σ', e2, q⟩ := q; exact ⟨_, _, _, by simp only [sIf, e, Option.bind_some, Bool.false_eq_true, if_false, e2], q⟩
theorem wS_if_e {t a b ρ σ Q} : (wS (sIf t a b) ρ σ Q) = (wA t ρ σ fun v σ1 => if v then wS a ρ σ1 Q else wS b ρ σ1 Q) := propext (wS_if)
theorem wS_append {n₀ x m ρ σ Q} {i : Nat} {vs : List AV} (h1 : ρ x = some (.ref i)) (h2 : σ[i]? = some (.list vs)) (h3 : n₀ ≤ i) (h4 : vs.length < 1000000) :
    wS (sAppend n₀ x m) ρ σ Q ↔ wA m ρ σ fun v σ1 => Q .next ρ (σ1.set i (.list (vs ++ [v]))) := by
  constructor
  · rintro ⟨f, ρ', σ', e, q⟩
    simp only [sAppend, h1, h2, Option.bind_some] at e
    obtain ⟨⟨v, σ1⟩, e1, e2⟩ := bind_some' e
    rw [if_pos ⟨h3, h4⟩] at e2
    cases e2; exact ⟨v, _, e1, q⟩
  · rintro ⟨v, σ1, e, q⟩
    exact ⟨_, _, _, by simp only [sAppend, h1, h2, Option.bind_some, e, if_pos (And.intro h3 h4)], q⟩
theorem forR_inv {x : Str} {b : AS} {Q : AF → AEnv → Store → Prop} (I : List AV → AEnv → Store → Prop) : ∀ (vs : List AV),
    (∀ v rest ρ σ, I (v :: rest) ρ σ → wS b (upd ρ x v) σ fun f ρ' σ' => match f with | .next => I rest ρ' σ' | .ret u => Q (.ret u) ρ' σ') → (∀ ρ σ, I [] ρ σ → Q .next ρ σ) →
    ∀ ρ σ, I vs ρ σ → wS (forR x b vs) ρ σ Q
  | [], _, hq, ρ, σ, h => ⟨_, _, _, rfl, hq _ _ h⟩
  | v :: rest, hs, hq, ρ, σ, h => by
    obtain ⟨f, ρ', σ', e, q⟩ := hs v rest ρ σ h
    cases f with
    | next =>
      obtain ⟨f2, ρ2, σ2, e2, q2⟩ := forR_inv I rest hs hq ρ' σ' q
      exact ⟨f2, ρ2, σ2, by simp [forR, e, e2], q2⟩
    | ret u => exact ⟨_, _, _, by simp [forR, e], q⟩
theorem forN_inv {x : Str} {b : AS} {Q : AF → AEnv → Store → Prop} (n : Nat) (I : Nat → AEnv → Store → Prop)
    (hs : ∀ j ρ σ, j < n → I j ρ σ → wS b (upd ρ x (.int j)) σ fun f ρ' σ' => match f with | .next => I (j + 1) ρ' σ' | .ret u => Q (.ret u) ρ' σ') (hq : ∀ ρ σ, I n ρ σ → Q .next ρ σ) (ρ σ) (h : I 0 ρ σ) :
    wS (forR x b (rngL 0 n)) ρ σ Q := by
  have e : rngL 0 n = (List.range n).map fun k : Nat => AV.int k := by simp [rngL]
  refine forR_inv (fun vs ρ σ => ∃ j, j ≤ n ∧ vs = ((List.range n).map fun k : Nat => AV.int k).drop j ∧ I j ρ σ) _ ?_ ?_ ρ σ ⟨0, Nat.zero_le _, by simpa using e, h⟩
  · rintro v rest ρ σ ⟨j, hj, e1, hI⟩
    by_cases hlt : j < n
    · rw [List.drop_eq_getElem_cons (by simpa using hlt)] at e1
      simp only [List.getElem_map, List.getElem_range, List.cons.injEq] at e1
      obtain ⟨rfl, rfl⟩ := e1
      refine (hs j ρ σ hlt hI).mono fun f ρ' σ' q => ?_
      cases f with
      | next => exact ⟨j + 1, hlt, rfl, q⟩
      | ret u => exact q
    · rw [List.drop_of_length_le (by simp; exact Nat.le_of_not_lt hlt)] at e1; cases e1
  · rintro ρ σ ⟨j, hj, e1, hI⟩
    by_cases hlt : j < n
    · rw [List.drop_eq_getElem_cons (by simpa using hlt)] at e1; cases e1
    · have : j = n := by exact Nat.le_antisymm hj (Nat.not_lt.mp hlt)
      subst this; exact hq _ _ hI
theorem wS_for {x src b ρ σ Q} : wS (sFor x src b) ρ σ Q ↔ wA src ρ σ fun v σ1 => wS (fun ρ σ => match v with
  | .rng lo hi => if rangeOk lo hi then forR x b (rngL lo hi) ρ σ else none
  | .ref i => (match σ[i]? with
    | some (.list vs) => forL i vs x b vs ρ σ
    | _ => none)
  | _ => none) ρ σ1 Q := by
  constructor
  · rintro ⟨f, ρ', σ', e, q⟩
    obtain ⟨⟨v, σ1⟩, e1, e2⟩ := bind_some' e
    exact ⟨v, σ1, e1, f, ρ', σ', e2, q⟩
  · rintro ⟨v, σ1, e, f, ρ', σ', e2, q⟩
    refine ⟨f, ρ', σ', ?_, q⟩
    simp only [sFor, e, Option.bind_some]
    exact e2
theorem wS_range {x b ρ σ Q} {lo hi : Int} (h : rangeOk lo hi) (q : wS (forR x b (rngL lo hi)) ρ σ Q) : wS (fun ρ σ => match AV.rng lo hi with
  | .rng lo hi => if rangeOk lo hi then forR x b (rngL lo hi) ρ σ else none
  | .ref i => (match σ[i]? with
    | some (.list vs) => forL i vs x b vs ρ σ
    | _ => none)
  | _ => none) ρ σ Q := by
  obtain ⟨f, ρ', σ', e, q⟩ := q
  exact ⟨f, ρ', σ', by dsimp only; rw [if_pos h]; exact e, q⟩
theorem wS_forN {x src b ρ σ Q} (n : Nat) (hn : n < 1000000) (I : Nat → AEnv → Store → Prop) (hsrc : wA src ρ σ fun v σ1 => v = .rng 0 n ∧ I 0 ρ σ1)
    (hs : ∀ j ρ σ, j < n → I j ρ σ → wS b (upd ρ x (.int j)) σ fun f ρ' σ' => match f with | .next => I (j + 1) ρ' σ' | .ret u => Q (.ret u) ρ' σ') (hq : ∀ ρ σ, I n ρ σ → Q .next ρ σ) : wS (sFor x src b) ρ σ Q := by
  rw [wS_for]
  refine hsrc.mono fun v σ1 h => ?_
  obtain ⟨rfl, h⟩ := h
  exact wS_range (by unfold rangeOk; omega) (forN_inv n I hs hq _ _ h)
theorem wS_while {t : AM Bool} {b : AS} {Q : AF → AEnv → Store → Prop} (I : Nat → AEnv → Store → Prop)
    (hs : ∀ n ρ σ, I n ρ σ → wA t ρ σ fun v σ1 => if v then ∃ n', n = n' + 1 ∧ wS b ρ σ1 (fun f ρ' σ' => match f with | .next => I n' ρ' σ' | .ret u => Q (.ret u) ρ' σ') else Q .next ρ σ1) (n : Nat) (hn : n < 1000) (ρ σ) (h : I n ρ σ) :
    wS (sWhile t b) ρ σ Q := by
  have key : ∀ k n ρ σ, n < k → I n ρ σ → wS (whileN t b k) ρ σ Q := by
    intro k
    induction k with
    | zero => intro n _ _ hlt; omega
    | succ k ih =>
      intro n ρ σ hlt h
      obtain ⟨v, σ1, e, q⟩ := hs n ρ σ h
      cases v with
      | false => exact ⟨_, _, _, by simp only [whileN, e, Option.bind_some, Bool.false_eq_true, if_false], q⟩
      | true =>
        simp only [if_true] at q
        obtain ⟨n', rfl, f, ρ', σ', e2, q⟩ := q
        cases f with
        | next =>
          obtain ⟨f3, ρ3, σ3, e3, q3⟩ := ih n' ρ' σ' (by exact Nat.succ_lt_succ_iff.mp hlt) q
          exact ⟨f3, ρ3, σ3, by simp only [whileN, e, Option.bind_some, if_true, e2, e3], q3⟩
        | ret u => exact ⟨_, _, _, by simp only [whileN, e, Option.bind_some, if_true, e2], q⟩
  exact key 1000 n ρ σ hn h
theorem wF_fn {X : FnX} {ps : List Str} {m : Nat → AS} {args : List AV} {σ : Store} {Q : AV → Store → Prop} (hl : args.length = ps.length)
    (h : wS (m σ.length) (bindE (ps.zip args) emp) σ fun f _ σ' => (∃ τ, σ' = σ ++ τ) ∧ ∃ v s, X σ (match f with | .ret v => v | .next => .none) σ' = some (v, s) ∧ Q v s) : wF (aFnX X ps m) args σ Q := by
  obtain ⟨f, ρ', σ', e, ⟨τ, rfl⟩, v, s, e2, q⟩ := h
  refine ⟨v, s, (if_pos hl).trans ?_, q⟩
  rw [e]
  exact (if_pos List.take_left).trans e2
theorem wF_eq {F : FnM} {vs σ Q v σ'} (h : F vs σ = some (v, σ')) : wF F vs σ Q ↔ Q v σ' := by
  constructor
  · rintro ⟨v, σ', e, q⟩; rw [h] at e; cases e; exact q
  · intro q; exact ⟨_, _, h, q⟩
theorem exp_int {σ i σ'} : exportV σ (.int i) σ' = some (.int i, σ) := by simp [exportV, AV.closed]
theorem exp_bool {σ i σ'} : exportV σ (.bool i) σ' = some (.bool i, σ) := by simp [exportV, AV.closed]
theorem exp_none {σ σ'} : exportV σ .none σ' = some (.none, σ) := by simp [exportV, AV.closed]
theorem closedL_ints (n : Nat) (ns : List Int) : closedL n (ns.map .int) = true := by
  induction ns with
  | nil => rfl
  | cons a r ih => simp [closedL, AV.closed, ih]
theorem exp_new {σ σ' : Store} {i : Nat} {o : AO} (hi : σ.length ≤ i) (e : σ'[i]? = some o) (hc : o.closed σ.length = true) : exportV σ (.ref i) σ' = some (.ref σ.length, σ ++ [o]) := by
  have : ¬ i < σ.length := by exact Nat.not_lt.mpr hi
  simp [exportV, AV.closed, this, e, hc]
theorem app_get {σ τ : Store} {i : Nat} {o : AO} (e : σ[i]? = some o) : (σ ++ τ)[i]? = some o := by
  have := (List.getElem?_eq_some_iff.mp e).1
  rw [List.getElem?_append_left this, e]
theorem new_get {σ : Store} {o : AO} : (σ ++ [o])[σ.length]? = some o := by simp
theorem intsOf_map (ns : List Int) : intsOf (ns.map .int) = some ns := by
  induction ns with
  | nil => rfl
  | cons a r ih => simp [intsOf, ih]
theorem str_ne {a b : String} (h : (a == b) = false) : ¬ (Str.ofString a = Str.ofString b) := by
  intro e
  have e' : a.toList.map Char.toNat = b.toList.map Char.toNat := by
    rw [Str.ofString_eq_toList, Str.ofString_eq_toList] at e
    simpa using e
  have hinj : a.toList = b.toList := by
    have key : ∀ l1 l2 : List Char, l1.map Char.toNat = l2.map Char.toNat → l1 = l2 := by
      intro l1
      induction l1 with
      | nil => intro l2 h; cases l2 with | nil => rfl | cons _ _ => simp at h
      | cons x xs ih =>
        intro l2 h
        cases l2 with
        | nil => simp at h
        | cons y ys =>
          simp only [List.map_cons, List.cons.injEq] at h
          rw [ih _ h.2, Char.toNat_inj.mp h.1]
    exact key _ _ e'
  have : a = b := String.toList_inj.mp hinj
  subst this
  simp at h
theorem str_eq_iff {a b : String} : (Str.ofString a = Str.ofString b) ↔ a = b := by
  constructor
  · intro e
    by_cases h : a = b
    · exact h
    · exact absurd e (str_ne (by simpa using h))
  · rintro rfl; rfl
theorem upd_ne {ρ : AEnv} {x y : String} {v : AV} (h : (y == x) = false) : upd ρ (Str.ofString x) v (Str.ofString y) = ρ (Str.ofString y) := by
  unfold upd
  rw [if_neg]
  intro e
  have := str_eq_iff.mp e
  subst this
  simp at h
theorem str_eq_iff_e {a b : String} : ((Str.ofString a = Str.ofString b)) = (a = b) := propext (str_eq_iff)
end Inn
end
section
set_option maxRecDepth 10000
set_option linter.unusedVariables false
namespace Inn
open PySem PySem.W PyProof.Rows
variable {prog : Program} {w : World}
theorem well_ints {P : Params} {h : Heap} {α : Nat → Addr} {n : Nat} : ∀ (ns : List Int) (vs : List Value), WellAll P h vs (ofPys (ns.map PyData.int)) → VRs h α n (ns.map .int) vs
  | [], vs, hw => by
    have hw' : WellAll P h vs [] := hw
    cases hw'; exact .nil
  | a :: ns, vs, hw => by
    have hw' : WellAll P h vs (.int a :: ofPys (ns.map PyData.int)) := hw
    cases hw' with
    | cons x y =>
      cases x
      exact .cons (.int _ _) (well_ints ns _ y)
theorem law_end {K : Frag} {k : Nat} {f : Addr} {F : FnM} {s₁ : Shared} {l : Addr} {ns : List Int} {c : ClaimW} {cl : Str → Option Addr} {mean : ExcName → Option Value} {args : List WData}
    (hF : FnOk prog w (Gr K) k f F) (hk : k ≤ 20) (g : Gr K s₁.heap) (hW : Well w.params s₁.heap (.ref l) (ofPy (PyData.list (ns.map PyData.int)))) (hl : ns.length ≤ 63) (hg : s₁.gens = #[])
    (hlaw : ∀ σ i, σ[i]? = some (AO.list (ns.map .int)) → F [.ref i] σ = some (.bool true, σ))
    (hr : ∀ cls, c.raises args cls = false) (hp : c.post args (.bool true) args = true) (hu : c.unshared = true → True) :
    wpAny (model prog w) callerA (PySem.call (.ref f) [.ref l]) (fun v s' => GoodWG c cl mean args s₁ (.ok (.ret v)) s') (fun e s' => GoodWG c cl mean args s₁ (.error e) s') s₁ := by
  have hW' : Well w.params s₁.heap (.ref l) (.list (ofPys (ns.map PyData.int))) := hW
  cases hW' with
  | @list _ vs _ ho hall =>
  have hv := well_ints (α := fun _ => l) (n := 1) ns vs hall
  have hlen := hv.length
  rw [List.length_map] at hlen
  refine hF callerA s₁ [.ref 0] [.ref l] [.list (ns.map .int)] (fun _ => l) (.bool true) [.list (ns.map .int)] _ _ ?_ g ?_ ?_ (hlaw _ 0 rfl) ?_
  · refine Lvl.mono ⟨rfl, ?_, ?_⟩ hk
    · decide +kernel
    · decide +kernel
  · refine ⟨fun i o e => ?_, fun i j hi hj _ => ?_⟩
    · cases i with
      | zero => simp at e; subst e; exact .list ho hv (by exact ar_284 hlen hl)
      | succ i => simp at e
    · simp at hi hj; exact ar_285 hi hj
  · exact .cons (.ref (by simp)) .nil
  · intro x α' h' tk' gr hx
    cases hx
    exact ⟨.inl ⟨_, _, _, rfl, hr, .bool true, hp, fun _ => ⟨List.nodup_nil, fun a ha => by cases ha⟩⟩, .of_keep gr.keep, rfl, .of_eq hg⟩
end Inn
end
set_option maxRecDepth 100000
set_option maxHeartbeats 8000000
open_top hd3 for PySem.Challenge.rw_uf040026_03
section
open PySem PySem.W PyProof.Rows
namespace Inn
section
variable {P : Params}
theorem gl_bool : Gl (Gr (hd3.heap_39 P)) "bool" (.type "bool") := gl_bi (by k_is) rfl (by boot_by_name)
theorem gl_dict : Gl (Gr (hd3.heap_39 P)) "dict" (.type "dict") := gl_bi (by k_is) rfl (by boot_by_name)
theorem gl_int : Gl (Gr (hd3.heap_39 P)) "int" (.type "int") := gl_bi (by k_is) rfl (by boot_by_name)
theorem gl_isinstance : Gl (Gr (hd3.heap_39 P)) "isinstance" (.builtin "isinstance") := gl_bi (by k_is) rfl (by boot_by_name)
theorem gl_len : Gl (Gr (hd3.heap_39 P)) "len" (.builtin "len") := gl_bi (by k_is) rfl (by boot_by_name)
theorem gl_list : Gl (Gr (hd3.heap_39 P)) "list" (.type "list") := gl_bi (by k_is) rfl (by boot_by_name)
theorem gl_max : Gl (Gr (hd3.heap_39 P)) "max" (.builtin "max") := gl_bi (by k_is) rfl (by boot_by_name)
theorem gl_range : Gl (Gr (hd3.heap_39 P)) "range" (.type "range") := gl_bi (by k_is) rfl (by boot_by_name)
theorem gl_sorted : Gl (Gr (hd3.heap_39 P)) "sorted" (.builtin "sorted") := gl_bi (by k_is) rfl (by boot_by_name)
theorem gl_kind_of : Gl (Gr (hd3.heap_39 P)) "kind_of" (.ref 21) := gl_def (by k_is)
theorem gl_spare_of : Gl (Gr (hd3.heap_39 P)) "spare_of" (.ref 26) := gl_def (by k_is)
theorem gl_short_kind : Gl (Gr (hd3.heap_39 P)) "short_kind" (.ref 33) := gl_def (by k_is)
theorem gl_law_cell : Gl (Gr (hd3.heap_39 P)) "_law_cell" (.ref 40) := gl_def (by k_is)
theorem gl_law_whole : Gl (Gr (hd3.heap_39 P)) "_law_whole" (.ref 47) := gl_def (by k_is)
theorem gl_law_house_by : Gl (Gr (hd3.heap_39 P)) "_law_house_by" (.ref 57) := gl_def (by k_is)
theorem gl_law_kinds : Gl (Gr (hd3.heap_39 P)) "_law_kinds" (.ref 64) := gl_def (by k_is)
theorem gl_law_rooms_by : Gl (Gr (hd3.heap_39 P)) "_law_rooms_by" (.ref 71) := gl_def (by k_is)
theorem gl_law_guests_by : Gl (Gr (hd3.heap_39 P)) "_law_guests_by" (.ref 78) := gl_def (by k_is)
theorem gl_law_night_by : Gl (Gr (hd3.heap_39 P)) "_law_night_by" (.ref 85) := gl_def (by k_is)
theorem gl_law_at_least : Gl (Gr (hd3.heap_39 P)) "_law_at_least" (.ref 90) := gl_def (by k_is)
theorem gl_law_short : Gl (Gr (hd3.heap_39 P)) "_law_short" (.ref 95) := gl_def (by k_is)
theorem gl_law_all_roomed : Gl (Gr (hd3.heap_39 P)) "_law_all_roomed" (.ref 100) := gl_def (by k_is)
end
noncomputable def sp_kind_of : FnM := aFnX exportV ["counts", "room"] (fun n₀ => (sSeq (sAssign "kind" (aInt 0)) (sSeq (sWhile (bCmp cGe (aName "room") (aSub (aName "counts") (aName "kind"))) (sSeq (sAssign "room" (aBin opSub (aName "room") (aSub (aName "counts") (aName "kind")))) (sSeq (sAssign "kind" (aBin opAdd (aName "kind") (aInt 1))) sNil))) (sSeq (sRet (aName "kind")) sNil))))
theorem cl_kind_of {P : Params} : Callee (Gr (hd3.heap_39 P)) (.ref 21) := callee_fn (by k_is)
theorem ok_kind_of {prog : Program} {w : World} {P : Params} : FnOk prog w (Gr (hd3.heap_39 P)) 1 21 sp_kind_of := by
  refine fn_def exp_V (K := hd3.heap_39 P) (f := 21) (k := 0) (ps := ["counts", "room"]) (ho := by k_is) (hcd := by k_is) (bind2 fun _ _ => rfl) rfl rfl rfl rfl rfl ?_
  intro A L h₀ n₀ cx
  exact (simS_cons (simS_Assign cx.ok (storable cx rfl rfl) rfl sim_int) (simS_cons (simS_While (simB_Cmp1 cmp_ge rfl (sim_name cx rfl rfl) (sim_Sub (fun _ _ => rfl) (sim_name cx rfl rfl) (sim_name cx rfl rfl))) (simS_cons (simS_Assign cx.ok (storable cx rfl rfl) rfl (sim_BinOp op_sub (sim_name cx rfl rfl) (sim_Sub (fun _ _ => rfl) (sim_name cx rfl rfl) (sim_name cx rfl rfl)))) (simS_cons (simS_Assign cx.ok (storable cx rfl rfl) rfl (sim_BinOp op_add (sim_name cx rfl rfl) sim_int)) simS_nil))) (simS_cons (simS_Return (sim_name cx rfl rfl)) simS_nil)))
noncomputable def sp_spare_of : FnM := aFnX exportV ["counts", "rooms", "wants", "kind"] (fun n₀ => (sSeq (sAssign "there" (aCall bLen [(aComp "room" (aName "rooms") (bAnd [(bCmp cGe (aCall sp_kind_of [(aName "counts"), (aName "room")]) (aName "kind"))]) (aName "room"))])) (sSeq (sRet (aBin opSub (aName "there") (aCall bLen [(aComp "number" (aName "wants") (bAnd [(bCmp cGe (aSub (aName "wants") (aName "number")) (aName "kind"))]) (aName "number"))]))) sNil)))
theorem cl_spare_of {P : Params} : Callee (Gr (hd3.heap_39 P)) (.ref 26) := callee_fn (by k_is)
theorem ok_spare_of {prog : Program} {w : World} {P : Params} : FnOk prog w (Gr (hd3.heap_39 P)) 2 26 sp_spare_of := by
  refine fn_def exp_V (K := hd3.heap_39 P) (f := 26) (k := 1) (ps := ["counts", "rooms", "wants", "kind"]) (ho := by k_is) (hcd := by k_is) (bind4 fun _ _ _ _ => rfl) rfl rfl rfl rfl rfl ?_
  intro A L h₀ n₀ cx
  exact (simS_cons (simS_Assign cx.ok (storable cx rfl rfl) rfl (sim_call cx rfl rfl gl_len (.builtin _) op_len (simA_cons (sim_ListComp cx (compOk_of rfl rfl) (fun _ => rfl) (sim_name cx rfl rfl) (fun _ _ cx => (simT_one (simB_Cmp1 cmp_ge rfl (sim_call cx rfl rfl gl_kind_of cl_kind_of (op_fn_le cx ok_kind_of (by decide)) (simA_cons (sim_name cx rfl rfl) (simA_cons (sim_name cx rfl rfl) simA_nil))) (sim_name cx rfl rfl)))) (fun _ _ cx => (sim_name cx rfl rfl))) simA_nil))) (simS_cons (simS_Return (sim_BinOp op_sub (sim_name cx rfl rfl) (sim_call cx rfl rfl gl_len (.builtin _) op_len (simA_cons (sim_ListComp cx (compOk_of rfl rfl) (fun _ => rfl) (sim_name cx rfl rfl) (fun _ _ cx => (simT_one (simB_Cmp1 cmp_ge rfl (sim_Sub (fun _ _ => rfl) (sim_name cx rfl rfl) (sim_name cx rfl rfl)) (sim_name cx rfl rfl)))) (fun _ _ cx => (sim_name cx rfl rfl))) simA_nil)))) simS_nil))
noncomputable def sp_short_kind : FnM := aFnX exportV ["counts", "rooms", "wants"] (fun n₀ => (sSeq (sFor "kind" (aCall bRange [(aCall bLen [(aName "counts")])]) (sSeq (sIf (bCmp cLt (aCall sp_spare_of [(aName "counts"), (aName "rooms"), (aName "wants"), (aName "kind")]) (aInt 0)) (sSeq (sRet (aName "kind")) sNil) sNil) sNil)) (sSeq (sRet aNone) sNil)))
theorem cl_short_kind {P : Params} : Callee (Gr (hd3.heap_39 P)) (.ref 33) := callee_fn (by k_is)
theorem ok_short_kind {prog : Program} {w : World} {P : Params} : FnOk prog w (Gr (hd3.heap_39 P)) 3 33 sp_short_kind := by
  refine fn_def exp_V (K := hd3.heap_39 P) (f := 33) (k := 2) (ps := ["counts", "rooms", "wants"]) (ho := by k_is) (hcd := by k_is) (bind3 fun _ _ _ => rfl) rfl rfl rfl rfl rfl ?_
  intro A L h₀ n₀ cx
  exact (simS_cons (simS_For cx.ok (storable cx rfl rfl) (fun _ => rfl) (sim_call cx rfl rfl gl_range (.type _) op_range (simA_cons (sim_call cx rfl rfl gl_len (.builtin _) op_len (simA_cons (sim_name cx rfl rfl) simA_nil)) simA_nil)) (simS_cons (simS_If (simB_Cmp1 cmp_lt rfl (sim_call cx rfl rfl gl_spare_of cl_spare_of (op_fn_le cx ok_spare_of (by decide)) (simA_cons (sim_name cx rfl rfl) (simA_cons (sim_name cx rfl rfl) (simA_cons (sim_name cx rfl rfl) (simA_cons (sim_name cx rfl rfl) simA_nil))))) sim_int) (simS_cons (simS_Return (sim_name cx rfl rfl)) simS_nil) simS_nil) simS_nil)) (simS_cons (simS_Return sim_none) simS_nil))
noncomputable def sp_law_cell : FnM := aFnX exportV ["_law_script", "_law_k"] (fun n₀ => (sSeq (sAssign "_law_more" (aBin opMul (aName "_law_k") (aInt 7919))) (sSeq (sIf (bCmp cNe (aName "_law_script") (aList [])) (sSeq (sAssign "_law_more" (aBin opAdd (aName "_law_more") (aBin opMul (aBin opDiv (aName "_law_k") (aCall bLen [(aName "_law_script")])) (aInt 104729)))) (sSeq (sAssign "_law_more" (aBin opMod (aBin opAdd (aName "_law_more") (aBin opMul (aSub (aName "_law_script") (aBin opMod (aName "_law_k") (aCall bLen [(aName "_law_script")]))) (aInt 48271))) (aInt 1000003))) sNil)) sNil) (sSeq (sRet (aBin opMod (aBin opAdd (aBin opDiv (aBin opMul (aName "_law_more") (aName "_law_more")) (aInt 11)) (aBin opMul (aInt 13) (aName "_law_more"))) (aInt 1000003))) sNil))))
theorem cl_law_cell {P : Params} : Callee (Gr (hd3.heap_39 P)) (.ref 40) := callee_fn (by k_is)
theorem ok_law_cell {prog : Program} {w : World} {P : Params} : FnOk prog w (Gr (hd3.heap_39 P)) 1 40 sp_law_cell := by
  refine fn_def exp_V (K := hd3.heap_39 P) (f := 40) (k := 0) (ps := ["_law_script", "_law_k"]) (ho := by k_is) (hcd := by k_is) (bind2 fun _ _ => rfl) rfl rfl rfl rfl rfl ?_
  intro A L h₀ n₀ cx
  exact (simS_cons (simS_Assign cx.ok (storable cx rfl rfl) rfl (sim_BinOp op_mul (sim_name cx rfl rfl) sim_int)) (simS_cons (simS_If (simB_Cmp1 (cmp_ne cx.lv) rfl (sim_name cx rfl rfl) (sim_List simA_nil)) (simS_cons (simS_Assign cx.ok (storable cx rfl rfl) rfl (sim_BinOp op_add (sim_name cx rfl rfl) (sim_BinOp op_mul (sim_BinOp op_div (sim_name cx rfl rfl) (sim_call cx rfl rfl gl_len (.builtin _) op_len (simA_cons (sim_name cx rfl rfl) simA_nil))) sim_int))) (simS_cons (simS_Assign cx.ok (storable cx rfl rfl) rfl (sim_BinOp op_mod (sim_BinOp op_add (sim_name cx rfl rfl) (sim_BinOp op_mul (sim_Sub (fun _ _ => rfl) (sim_name cx rfl rfl) (sim_BinOp op_mod (sim_name cx rfl rfl) (sim_call cx rfl rfl gl_len (.builtin _) op_len (simA_cons (sim_name cx rfl rfl) simA_nil)))) sim_int)) sim_int)) simS_nil)) simS_nil) (simS_cons (simS_Return (sim_BinOp op_mod (sim_BinOp op_add (sim_BinOp op_div (sim_BinOp op_mul (sim_name cx rfl rfl) (sim_name cx rfl rfl)) sim_int) (sim_BinOp op_mul sim_int (sim_name cx rfl rfl))) sim_int)) simS_nil)))
noncomputable def sp_law_whole : FnM := aFnX exportV ["_law_found"] (fun n₀ => (sSeq (sRet (vAnd [(aIsi "int" (aName "_law_found")), (aNot (aIsi "bool" (aName "_law_found")))])) sNil))
theorem cl_law_whole {P : Params} : Callee (Gr (hd3.heap_39 P)) (.ref 47) := callee_fn (by k_is)
theorem ok_law_whole {prog : Program} {w : World} {P : Params} : FnOk prog w (Gr (hd3.heap_39 P)) 1 47 sp_law_whole := by
  refine fn_def exp_V (K := hd3.heap_39 P) (f := 47) (k := 0) (ps := ["_law_found"]) (ho := by k_is) (hcd := by k_is) (bind1 fun _ => rfl) rfl rfl rfl rfl rfl ?_
  intro A L h₀ n₀ cx
  exact (simS_cons (simS_Return (sim_and (simVAnd_cons (sim_isinstance cx rfl rfl rfl gl_isinstance gl_int (sim_name cx rfl rfl) (fun _ => rfl)) (simVAnd_one (sim_not (sim_isinstance cx rfl rfl rfl gl_isinstance gl_bool (sim_name cx rfl rfl) (fun _ => rfl))))))) simS_nil)
noncomputable def sp_law_house_by : FnM := aFnX exportV ["_law_script"] (fun n₀ => (sSeq (sAssign "_law_many" (aBin opAdd (aInt 1) (aBin opMod (aCall sp_law_cell [(aName "_law_script"), (aInt 0)]) (aInt 6)))) (sSeq (sAssign "_law_most" (aSub (aList [(aInt 4), (aInt 3), (aInt 4), (aInt 9)]) (aBin opMod (aCall sp_law_cell [(aName "_law_script"), (aInt 1)]) (aInt 4)))) (sSeq (sRet (aComp "_law_k" (aCall bRange [(aName "_law_many")]) (bAnd []) (aBin opMod (aCall sp_law_cell [(aName "_law_script"), (aBin opAdd (aInt 10) (aName "_law_k"))]) (aBin opAdd (aName "_law_most") (aInt 1))))) sNil))))
theorem cl_law_house_by {P : Params} : Callee (Gr (hd3.heap_39 P)) (.ref 57) := callee_fn (by k_is)
theorem ok_law_house_by {prog : Program} {w : World} {P : Params} : FnOk prog w (Gr (hd3.heap_39 P)) 2 57 sp_law_house_by := by
  refine fn_def exp_V (K := hd3.heap_39 P) (f := 57) (k := 1) (ps := ["_law_script"]) (ho := by k_is) (hcd := by k_is) (bind1 fun _ => rfl) rfl rfl rfl rfl rfl ?_
  intro A L h₀ n₀ cx
  exact (simS_cons (simS_Assign cx.ok (storable cx rfl rfl) rfl (sim_BinOp op_add sim_int (sim_BinOp op_mod (sim_call cx rfl rfl gl_law_cell cl_law_cell (op_fn_le cx ok_law_cell (by decide)) (simA_cons (sim_name cx rfl rfl) (simA_cons sim_int simA_nil))) sim_int))) (simS_cons (simS_Assign cx.ok (storable cx rfl rfl) rfl (sim_Sub (fun _ _ => rfl) (sim_List (simA_cons sim_int (simA_cons sim_int (simA_cons sim_int (simA_cons sim_int simA_nil))))) (sim_BinOp op_mod (sim_call cx rfl rfl gl_law_cell cl_law_cell (op_fn_le cx ok_law_cell (by decide)) (simA_cons (sim_name cx rfl rfl) (simA_cons sim_int simA_nil))) sim_int))) (simS_cons (simS_Return (sim_ListComp cx (compOk_of rfl rfl) (fun _ => rfl) (sim_call cx rfl rfl gl_range (.type _) op_range (simA_cons (sim_name cx rfl rfl) simA_nil)) (fun _ _ cx => simT_nil) (fun _ _ cx => (sim_BinOp op_mod (sim_call cx rfl rfl gl_law_cell cl_law_cell (op_fn_le cx ok_law_cell (by decide)) (simA_cons (sim_name cx rfl rfl) (simA_cons (sim_BinOp op_add sim_int (sim_name cx rfl rfl)) simA_nil))) (sim_BinOp op_add (sim_name cx rfl rfl) sim_int))))) simS_nil)))
noncomputable def sp_law_kinds : FnM := aFnX exportV ["_law_counts"] (fun n₀ => (sSeq (sAssign "_law_kinds_here" (aList [])) (sSeq (sFor "_law_kind" (aCall bRange [(aCall bLen [(aName "_law_counts")])]) (sSeq (sAssign "_law_kinds_here" (aBin opAdd (aName "_law_kinds_here") (aBin opMul (aList [(aName "_law_kind")]) (aSub (aName "_law_counts") (aName "_law_kind"))))) sNil)) (sSeq (sRet (aName "_law_kinds_here")) sNil))))
theorem cl_law_kinds {P : Params} : Callee (Gr (hd3.heap_39 P)) (.ref 64) := callee_fn (by k_is)
theorem ok_law_kinds {prog : Program} {w : World} {P : Params} : FnOk prog w (Gr (hd3.heap_39 P)) 1 64 sp_law_kinds := by
  refine fn_def exp_V (K := hd3.heap_39 P) (f := 64) (k := 0) (ps := ["_law_counts"]) (ho := by k_is) (hcd := by k_is) (bind1 fun _ => rfl) rfl rfl rfl rfl rfl ?_
  intro A L h₀ n₀ cx
  exact (simS_cons (simS_Assign cx.ok (storable cx rfl rfl) rfl (sim_List simA_nil)) (simS_cons (simS_For cx.ok (storable cx rfl rfl) (fun _ => rfl) (sim_call cx rfl rfl gl_range (.type _) op_range (simA_cons (sim_call cx rfl rfl gl_len (.builtin _) op_len (simA_cons (sim_name cx rfl rfl) simA_nil)) simA_nil)) (simS_cons (simS_Assign cx.ok (storable cx rfl rfl) rfl (sim_BinOp op_add (sim_name cx rfl rfl) (sim_BinOp op_mul (sim_List (simA_cons (sim_name cx rfl rfl) simA_nil)) (sim_Sub (fun _ _ => rfl) (sim_name cx rfl rfl) (sim_name cx rfl rfl))))) simS_nil)) (simS_cons (simS_Return (sim_name cx rfl rfl)) simS_nil)))
noncomputable def sp_law_rooms_by : FnM := aFnX exportV ["_law_script", "_law_kinds_here"] (fun n₀ => (sSeq (sAssign "_law_found" (aList [])) (sSeq (sFor "_law_room" (aCall bRange [(aCall bLen [(aName "_law_kinds_here")])]) (sSeq (sAssign "_law_away" (vAnd [(aCmp cEq (aBin opMod (aCall sp_law_cell [(aName "_law_script"), (aInt 2)]) (aInt 3)) (aInt 1)), (aCmp cEq (aBin opMod (aCall sp_law_cell [(aName "_law_script"), (aBin opAdd (aInt 20) (aSub (aName "_law_kinds_here") (aName "_law_room")))]) (aInt 4)) (aInt 1))])) (sSeq (sIf (bAnd [(bNot (bVal (aName "_law_away"))), (bCmp cGt (aBin opMod (aCall sp_law_cell [(aName "_law_script"), (aBin opAdd (aInt 30) (aName "_law_room"))]) (aInt 8)) (aBin opSub (aCall bInt [(aCmp cEq (aBin opMod (aCall sp_law_cell [(aName "_law_script"), (aInt 3)]) (aInt 2)) (aInt 1))]) (aInt 1)))]) (sSeq (sAppend n₀ "_law_found" (aName "_law_room")) sNil) sNil) sNil))) (sSeq (sRet (aName "_law_found")) sNil))))
theorem cl_law_rooms_by {P : Params} : Callee (Gr (hd3.heap_39 P)) (.ref 71) := callee_fn (by k_is)
theorem ok_law_rooms_by {prog : Program} {w : World} {P : Params} : FnOk prog w (Gr (hd3.heap_39 P)) 2 71 sp_law_rooms_by := by
  refine fn_def exp_V (K := hd3.heap_39 P) (f := 71) (k := 1) (ps := ["_law_script", "_law_kinds_here"]) (ho := by k_is) (hcd := by k_is) (bind2 fun _ _ => rfl) rfl rfl rfl rfl rfl ?_
  intro A L h₀ n₀ cx
  exact (simS_cons (simS_Assign cx.ok (storable cx rfl rfl) rfl (sim_List simA_nil)) (simS_cons (simS_For cx.ok (storable cx rfl rfl) (fun _ => rfl) (sim_call cx rfl rfl gl_range (.type _) op_range (simA_cons (sim_call cx rfl rfl gl_len (.builtin _) op_len (simA_cons (sim_name cx rfl rfl) simA_nil)) simA_nil)) (simS_cons (simS_Assign cx.ok (storable cx rfl rfl) rfl (sim_and (simVAnd_cons (sim_Cmp1 (cmp_eq cx.lv) rfl (sim_BinOp op_mod (sim_call cx rfl rfl gl_law_cell cl_law_cell (op_fn_le cx ok_law_cell (by decide)) (simA_cons (sim_name cx rfl rfl) (simA_cons sim_int simA_nil))) sim_int) sim_int) (simVAnd_one (sim_Cmp1 (cmp_eq cx.lv) rfl (sim_BinOp op_mod (sim_call cx rfl rfl gl_law_cell cl_law_cell (op_fn_le cx ok_law_cell (by decide)) (simA_cons (sim_name cx rfl rfl) (simA_cons (sim_BinOp op_add sim_int (sim_Sub (fun _ _ => rfl) (sim_name cx rfl rfl) (sim_name cx rfl rfl))) simA_nil))) sim_int) sim_int))))) (simS_cons (simS_If (simB_and (simAnd_cons (simB_not (simB_val (fun _ => rfl) (sim_name cx rfl rfl))) (simAnd_cons (simB_Cmp1 cmp_gt rfl (sim_BinOp op_mod (sim_call cx rfl rfl gl_law_cell cl_law_cell (op_fn_le cx ok_law_cell (by decide)) (simA_cons (sim_name cx rfl rfl) (simA_cons (sim_BinOp op_add sim_int (sim_name cx rfl rfl)) simA_nil))) sim_int) (sim_BinOp op_sub (sim_call cx rfl rfl gl_int (.type _) op_int (simA_cons (sim_Cmp1 (cmp_eq cx.lv) rfl (sim_BinOp op_mod (sim_call cx rfl rfl gl_law_cell cl_law_cell (op_fn_le cx ok_law_cell (by decide)) (simA_cons (sim_name cx rfl rfl) (simA_cons sim_int simA_nil))) sim_int) sim_int) simA_nil)) sim_int)) simAnd_nil))) (simS_cons (simS_append cx rfl rfl rfl rfl rfl rfl (sim_name cx rfl rfl)) simS_nil) simS_nil) simS_nil))) (simS_cons (simS_Return (sim_name cx rfl rfl)) simS_nil)))
noncomputable def sp_law_guests_by : FnM := aFnX exportT ["_law_script", "_law_kinds_here"] (fun n₀ => (sSeq (sAssign "_law_ahead" aDict0) (sSeq (sAssign "_law_wants" aDict0) (sSeq (sFor "_law_room" (aCall bRange [(aCall bLen [(aName "_law_kinds_here")])]) (sSeq (sAssign "_law_more" (aCall sp_law_cell [(aName "_law_script"), (aBin opAdd (aInt 100) (aName "_law_room"))])) (sSeq (sAssign "_law_number" (aBin opAdd (aBin opMod (aBin opAdd (aBin opMul (aName "_law_room") (aInt 37)) (aCall sp_law_cell [(aName "_law_script"), (aInt 4)])) (aInt 101)) (aSub (aList [(aInt 0), (aInt 0), (aNeg (aInt 50)), (aBin opPow (aInt 10) (aInt 20))]) (aBin opMod (aCall sp_law_cell [(aName "_law_script"), (aInt 8)]) (aInt 4))))) (sSeq (sIf (bCmp cGt (aBin opMod (aName "_law_more") (aInt 5)) (aInt 0)) (sSeq (sSetItem n₀ "_law_ahead" (aName "_law_number") (aName "_law_room")) (sSeq (sIf (bCmp cGt (aBin opMod (aBin opDiv (aName "_law_more") (aInt 5)) (aInt 5)) (aInt 0)) (sSeq (sSetItem n₀ "_law_wants" (aName "_law_number") (aBin opMod (aBin opDiv (aName "_law_more") (aInt 25)) (aBin opAdd (aSub (aName "_law_kinds_here") (aName "_law_room")) (aInt 1)))) (sSeq (sIf (bAnd [(bCmp cEq (aBin opMod (aCall sp_law_cell [(aName "_law_script"), (aInt 9)]) (aInt 2)) (aInt 1)), (bCmp cGt (aBin opMod (aBin opDiv (aName "_law_more") (aInt 7)) (aInt 3)) (aInt 0))]) (sSeq (sSetItem n₀ "_law_wants" (aName "_law_number") (aInt 0)) sNil) sNil) sNil)) sNil) sNil)) sNil) sNil)))) (sSeq (sRet (aTup [(aName "_law_wants"), (aName "_law_ahead")])) sNil)))))
theorem cl_law_guests_by {P : Params} : Callee (Gr (hd3.heap_39 P)) (.ref 78) := callee_fn (by k_is)
theorem ok_law_guests_by {prog : Program} {w : World} {P : Params} : FnOk prog w (Gr (hd3.heap_39 P)) 2 78 sp_law_guests_by := by
  refine fn_def exp_T (K := hd3.heap_39 P) (f := 78) (k := 1) (ps := ["_law_script", "_law_kinds_here"]) (ho := by k_is) (hcd := by k_is) (bind2 fun _ _ => rfl) rfl rfl rfl rfl rfl ?_
  intro A L h₀ n₀ cx
  exact (simS_cons (simS_Assign cx.ok (storable cx rfl rfl) rfl (sim_Dict0 cx gr_low)) (simS_cons (simS_Assign cx.ok (storable cx rfl rfl) rfl (sim_Dict0 cx gr_low)) (simS_cons (simS_For cx.ok (storable cx rfl rfl) (fun _ => rfl) (sim_call cx rfl rfl gl_range (.type _) op_range (simA_cons (sim_call cx rfl rfl gl_len (.builtin _) op_len (simA_cons (sim_name cx rfl rfl) simA_nil)) simA_nil)) (simS_cons (simS_Assign cx.ok (storable cx rfl rfl) rfl (sim_call cx rfl rfl gl_law_cell cl_law_cell (op_fn_le cx ok_law_cell (by decide)) (simA_cons (sim_name cx rfl rfl) (simA_cons (sim_BinOp op_add sim_int (sim_name cx rfl rfl)) simA_nil)))) (simS_cons (simS_Assign cx.ok (storable cx rfl rfl) rfl (sim_BinOp op_add (sim_BinOp op_mod (sim_BinOp op_add (sim_BinOp op_mul (sim_name cx rfl rfl) sim_int) (sim_call cx rfl rfl gl_law_cell cl_law_cell (op_fn_le cx ok_law_cell (by decide)) (simA_cons (sim_name cx rfl rfl) (simA_cons sim_int simA_nil)))) sim_int) (sim_Sub (fun _ _ => rfl) (sim_List (simA_cons sim_int (simA_cons sim_int (simA_cons (sim_neg sim_int) (simA_cons (sim_BinOp op_pow sim_int sim_int) simA_nil))))) (sim_BinOp op_mod (sim_call cx rfl rfl gl_law_cell cl_law_cell (op_fn_le cx ok_law_cell (by decide)) (simA_cons (sim_name cx rfl rfl) (simA_cons sim_int simA_nil))) sim_int)))) (simS_cons (simS_If (simB_Cmp1 cmp_gt rfl (sim_BinOp op_mod (sim_name cx rfl rfl) sim_int) sim_int) (simS_cons (simS_setItem cx rfl rfl rfl (sim_name cx rfl rfl) (sim_name cx rfl rfl)) (simS_cons (simS_If (simB_Cmp1 cmp_gt rfl (sim_BinOp op_mod (sim_BinOp op_div (sim_name cx rfl rfl) sim_int) sim_int) sim_int) (simS_cons (simS_setItem cx rfl rfl rfl (sim_name cx rfl rfl) (sim_BinOp op_mod (sim_BinOp op_div (sim_name cx rfl rfl) sim_int) (sim_BinOp op_add (sim_Sub (fun _ _ => rfl) (sim_name cx rfl rfl) (sim_name cx rfl rfl)) sim_int))) (simS_cons (simS_If (simB_and (simAnd_cons (simB_Cmp1 (cmp_eq cx.lv) rfl (sim_BinOp op_mod (sim_call cx rfl rfl gl_law_cell cl_law_cell (op_fn_le cx ok_law_cell (by decide)) (simA_cons (sim_name cx rfl rfl) (simA_cons sim_int simA_nil))) sim_int) sim_int) (simAnd_cons (simB_Cmp1 cmp_gt rfl (sim_BinOp op_mod (sim_BinOp op_div (sim_name cx rfl rfl) sim_int) sim_int) sim_int) simAnd_nil))) (simS_cons (simS_setItem cx rfl rfl rfl (sim_name cx rfl rfl) sim_int) simS_nil) simS_nil) simS_nil)) simS_nil) simS_nil)) simS_nil) simS_nil)))) (simS_cons (simS_Return (sim_Tuple (simA_cons (sim_name cx rfl rfl) (simA_cons (sim_name cx rfl rfl) simA_nil)))) simS_nil))))
noncomputable def sp_law_night_by : FnM := aFnX exportT ["_law_script"] (fun n₀ => (sSeq (sAssign "_law_counts" (aCall sp_law_house_by [(aName "_law_script")])) (sSeq (sAssign "_law_kinds_here" (aCall sp_law_kinds [(aName "_law_counts")])) (sSeq (sAssign "_law_rooms" (aCall sp_law_rooms_by [(aName "_law_script"), (aName "_law_kinds_here")])) (sSeq (sAssign "_law_guests" (aCall sp_law_guests_by [(aName "_law_script"), (aName "_law_kinds_here")])) (sSeq (sAssign "_law_wants" (aSub (aName "_law_guests") (aInt 0))) (sSeq (sAssign "_law_ahead" (aSub (aName "_law_guests") (aInt 1))) (sSeq (sAssign "_law_pressed" (aBin opMod (aCall sp_law_cell [(aName "_law_script"), (aInt 9)]) (aInt 2))) (sSeq (sFor "_law_k" (aCall bRange [(aBin opMod (aCall sp_law_cell [(aName "_law_script"), (aInt 5)]) (aSub (aList [(aInt 3), (aInt 6), (aBin opAdd (aInt 3) (aBin opMul (aInt 9) (aName "_law_pressed")))]) (aBin opMod (aCall sp_law_cell [(aName "_law_script"), (aInt 6)]) (aInt 3))))]) (sSeq (sAssign "_law_more" (aCall sp_law_cell [(aName "_law_script"), (aBin opAdd (aInt 200) (aName "_law_k"))])) (sSeq (sSetItem n₀ "_law_wants" (aBin opSub (aInt 200) (aBin opMul (aInt 7) (aName "_law_k"))) (aSub (aList [(aBin opMod (aName "_law_more") (aCall bLen [(aName "_law_counts")])), (aCall bMax [(aInt 0), (aBin opSub (aBin opSub (aCall bLen [(aName "_law_counts")]) (aInt 1)) (aBin opMod (aName "_law_more") (aInt 4)))])]) (aName "_law_pressed"))) sNil))) (sSeq (sRet (aTup [(aName "_law_counts"), (aName "_law_rooms"), (aName "_law_wants"), (aName "_law_ahead")])) sNil))))))))))
theorem cl_law_night_by {P : Params} : Callee (Gr (hd3.heap_39 P)) (.ref 85) := callee_fn (by k_is)
theorem ok_law_night_by {prog : Program} {w : World} {P : Params} : FnOk prog w (Gr (hd3.heap_39 P)) 3 85 sp_law_night_by := by
  refine fn_def exp_T (K := hd3.heap_39 P) (f := 85) (k := 2) (ps := ["_law_script"]) (ho := by k_is) (hcd := by k_is) (bind1 fun _ => rfl) rfl rfl rfl rfl rfl ?_
  intro A L h₀ n₀ cx
  exact (simS_cons (simS_Assign cx.ok (storable cx rfl rfl) rfl (sim_call cx rfl rfl gl_law_house_by cl_law_house_by (op_fn_le cx ok_law_house_by (by decide)) (simA_cons (sim_name cx rfl rfl) simA_nil))) (simS_cons (simS_Assign cx.ok (storable cx rfl rfl) rfl (sim_call cx rfl rfl gl_law_kinds cl_law_kinds (op_fn_le cx ok_law_kinds (by decide)) (simA_cons (sim_name cx rfl rfl) simA_nil))) (simS_cons (simS_Assign cx.ok (storable cx rfl rfl) rfl (sim_call cx rfl rfl gl_law_rooms_by cl_law_rooms_by (op_fn_le cx ok_law_rooms_by (by decide)) (simA_cons (sim_name cx rfl rfl) (simA_cons (sim_name cx rfl rfl) simA_nil)))) (simS_cons (simS_Assign cx.ok (storable cx rfl rfl) rfl (sim_call cx rfl rfl gl_law_guests_by cl_law_guests_by (op_fn_le cx ok_law_guests_by (by decide)) (simA_cons (sim_name cx rfl rfl) (simA_cons (sim_name cx rfl rfl) simA_nil)))) (simS_cons (simS_Assign cx.ok (storable cx rfl rfl) rfl (sim_Sub (fun _ _ => rfl) (sim_name cx rfl rfl) sim_int)) (simS_cons (simS_Assign cx.ok (storable cx rfl rfl) rfl (sim_Sub (fun _ _ => rfl) (sim_name cx rfl rfl) sim_int)) (simS_cons (simS_Assign cx.ok (storable cx rfl rfl) rfl (sim_BinOp op_mod (sim_call cx rfl rfl gl_law_cell cl_law_cell (op_fn_le cx ok_law_cell (by decide)) (simA_cons (sim_name cx rfl rfl) (simA_cons sim_int simA_nil))) sim_int)) (simS_cons (simS_For cx.ok (storable cx rfl rfl) (fun _ => rfl) (sim_call cx rfl rfl gl_range (.type _) op_range (simA_cons (sim_BinOp op_mod (sim_call cx rfl rfl gl_law_cell cl_law_cell (op_fn_le cx ok_law_cell (by decide)) (simA_cons (sim_name cx rfl rfl) (simA_cons sim_int simA_nil))) (sim_Sub (fun _ _ => rfl) (sim_List (simA_cons sim_int (simA_cons sim_int (simA_cons (sim_BinOp op_add sim_int (sim_BinOp op_mul sim_int (sim_name cx rfl rfl))) simA_nil)))) (sim_BinOp op_mod (sim_call cx rfl rfl gl_law_cell cl_law_cell (op_fn_le cx ok_law_cell (by decide)) (simA_cons (sim_name cx rfl rfl) (simA_cons sim_int simA_nil))) sim_int))) simA_nil)) (simS_cons (simS_Assign cx.ok (storable cx rfl rfl) rfl (sim_call cx rfl rfl gl_law_cell cl_law_cell (op_fn_le cx ok_law_cell (by decide)) (simA_cons (sim_name cx rfl rfl) (simA_cons (sim_BinOp op_add sim_int (sim_name cx rfl rfl)) simA_nil)))) (simS_cons (simS_setItem cx rfl rfl rfl (sim_BinOp op_sub sim_int (sim_BinOp op_mul sim_int (sim_name cx rfl rfl))) (sim_Sub (fun _ _ => rfl) (sim_List (simA_cons (sim_BinOp op_mod (sim_name cx rfl rfl) (sim_call cx rfl rfl gl_len (.builtin _) op_len (simA_cons (sim_name cx rfl rfl) simA_nil))) (simA_cons (sim_call cx rfl rfl gl_max (.builtin _) (op_max cx.lv) (simA_cons sim_int (simA_cons (sim_BinOp op_sub (sim_BinOp op_sub (sim_call cx rfl rfl gl_len (.builtin _) op_len (simA_cons (sim_name cx rfl rfl) simA_nil)) sim_int) (sim_BinOp op_mod (sim_name cx rfl rfl) sim_int)) simA_nil))) simA_nil))) (sim_name cx rfl rfl))) simS_nil))) (simS_cons (simS_Return (sim_Tuple (simA_cons (sim_name cx rfl rfl) (simA_cons (sim_name cx rfl rfl) (simA_cons (sim_name cx rfl rfl) (simA_cons (sim_name cx rfl rfl) simA_nil)))))) simS_nil)))))))))
noncomputable def sp_law_at_least : FnM := aFnX exportV ["_law_kinds_here", "_law_kind"] (fun n₀ => (sSeq (sRet (aCall bLen [(aComp "_law_one" (aName "_law_kinds_here") (bAnd [(bCmp cGe (aName "_law_one") (aName "_law_kind"))]) (aName "_law_one"))])) sNil))
theorem cl_law_at_least {P : Params} : Callee (Gr (hd3.heap_39 P)) (.ref 90) := callee_fn (by k_is)
theorem ok_law_at_least {prog : Program} {w : World} {P : Params} : FnOk prog w (Gr (hd3.heap_39 P)) 1 90 sp_law_at_least := by
  refine fn_def exp_V (K := hd3.heap_39 P) (f := 90) (k := 0) (ps := ["_law_kinds_here", "_law_kind"]) (ho := by k_is) (hcd := by k_is) (bind2 fun _ _ => rfl) rfl rfl rfl rfl rfl ?_
  intro A L h₀ n₀ cx
  exact (simS_cons (simS_Return (sim_call cx rfl rfl gl_len (.builtin _) op_len (simA_cons (sim_ListComp cx (compOk_of rfl rfl) (fun _ => rfl) (sim_name cx rfl rfl) (fun _ _ cx => (simT_one (simB_Cmp1 cmp_ge rfl (sim_name cx rfl rfl) (sim_name cx rfl rfl)))) (fun _ _ cx => (sim_name cx rfl rfl))) simA_nil))) simS_nil)
noncomputable def sp_law_short : FnM := aFnX exportV ["_law_counts", "_law_rooms", "_law_wants"] (fun n₀ => (sSeq (sAssign "_law_kinds_here" (aCall sp_law_kinds [(aName "_law_counts")])) (sSeq (sFor "_law_kind" (aCall bRange [(aCall bLen [(aName "_law_counts")])]) (sSeq (sIf (bCmp cGt (aCall sp_law_at_least [(aCall bList [(aValues "_law_wants")]), (aName "_law_kind")]) (aCall sp_law_at_least [(aComp "_law_room" (aName "_law_rooms") (bAnd []) (aSub (aName "_law_kinds_here") (aName "_law_room"))), (aName "_law_kind")])) (sSeq (sRet (aName "_law_kind")) sNil) sNil) sNil)) (sSeq (sRet aNone) sNil))))
theorem cl_law_short {P : Params} : Callee (Gr (hd3.heap_39 P)) (.ref 95) := callee_fn (by k_is)
theorem ok_law_short {prog : Program} {w : World} {P : Params} : FnOk prog w (Gr (hd3.heap_39 P)) 2 95 sp_law_short := by
  refine fn_def exp_V (K := hd3.heap_39 P) (f := 95) (k := 1) (ps := ["_law_counts", "_law_rooms", "_law_wants"]) (ho := by k_is) (hcd := by k_is) (bind3 fun _ _ _ => rfl) rfl rfl rfl rfl rfl ?_
  intro A L h₀ n₀ cx
  exact (simS_cons (simS_Assign cx.ok (storable cx rfl rfl) rfl (sim_call cx rfl rfl gl_law_kinds cl_law_kinds (op_fn_le cx ok_law_kinds (by decide)) (simA_cons (sim_name cx rfl rfl) simA_nil))) (simS_cons (simS_For cx.ok (storable cx rfl rfl) (fun _ => rfl) (sim_call cx rfl rfl gl_range (.type _) op_range (simA_cons (sim_call cx rfl rfl gl_len (.builtin _) op_len (simA_cons (sim_name cx rfl rfl) simA_nil)) simA_nil)) (simS_cons (simS_If (simB_Cmp1 cmp_gt rfl (sim_call cx rfl rfl gl_law_at_least cl_law_at_least (op_fn_le cx ok_law_at_least (by decide)) (simA_cons (sim_call cx rfl rfl gl_list (.type _) (op_list cx.lv) (simA_cons (sim_values cx rfl rfl) simA_nil)) (simA_cons (sim_name cx rfl rfl) simA_nil))) (sim_call cx rfl rfl gl_law_at_least cl_law_at_least (op_fn_le cx ok_law_at_least (by decide)) (simA_cons (sim_ListComp cx (compOk_of rfl rfl) (fun _ => rfl) (sim_name cx rfl rfl) (fun _ _ cx => simT_nil) (fun _ _ cx => (sim_Sub (fun _ _ => rfl) (sim_name cx rfl rfl) (sim_name cx rfl rfl)))) (simA_cons (sim_name cx rfl rfl) simA_nil)))) (simS_cons (simS_Return (sim_name cx rfl rfl)) simS_nil) simS_nil) simS_nil)) (simS_cons (simS_Return sim_none) simS_nil)))
noncomputable def sp_law_all_roomed : FnM := aFnX exportV ["_law_script", "_law_counts", "_law_rooms", "_law_wants"] (fun n₀ => (sSeq (sAssign "_law_kinds_here" (aCall sp_law_kinds [(aName "_law_counts")])) (sSeq (sAssign "_law_free" (aCall bList [(aName "_law_rooms")])) (sSeq (sAssign "_law_turn" (aInt 0)) (sSeq (sFor "_law_want" (aCall bSortedR [(aCall bList [(aValues "_law_wants")])]) (sSeq (sAssignC "_law_good" "_law_room" (aName "_law_free") (bAnd [(bCmp cGe (aSub (aName "_law_kinds_here") (aName "_law_room")) (aName "_law_want"))]) (aName "_law_room")) (sSeq (sIf (bCmp cEq (aName "_law_good") (aList [])) (sSeq (sRet (aBool false)) sNil) sNil) (sSeq (sRemove n₀ "_law_free" (aSub (aName "_law_good") (aBin opMod (aCall sp_law_cell [(aName "_law_script"), (aBin opAdd (aInt 300) (aName "_law_turn"))]) (aCall bLen [(aName "_law_good")])))) (sSeq (sAssign "_law_turn" (aBin opAdd (aName "_law_turn") (aInt 1))) sNil))))) (sSeq (sRet (aBool true)) sNil))))))
theorem cl_law_all_roomed {P : Params} : Callee (Gr (hd3.heap_39 P)) (.ref 100) := callee_fn (by k_is)
theorem ok_law_all_roomed {prog : Program} {w : World} {P : Params} : FnOk prog w (Gr (hd3.heap_39 P)) 2 100 sp_law_all_roomed := by
  refine fn_def exp_V (K := hd3.heap_39 P) (f := 100) (k := 1) (ps := ["_law_script", "_law_counts", "_law_rooms", "_law_wants"]) (ho := by k_is) (hcd := by k_is) (bind4 fun _ _ _ _ => rfl) rfl rfl rfl rfl rfl ?_
  intro A L h₀ n₀ cx
  exact (simS_cons (simS_Assign cx.ok (storable cx rfl rfl) rfl (sim_call cx rfl rfl gl_law_kinds cl_law_kinds (op_fn_le cx ok_law_kinds (by decide)) (simA_cons (sim_name cx rfl rfl) simA_nil))) (simS_cons (simS_Assign cx.ok (storable cx rfl rfl) rfl (sim_call cx rfl rfl gl_list (.type _) (op_list cx.lv) (simA_cons (sim_name cx rfl rfl) simA_nil))) (simS_cons (simS_Assign cx.ok (storable cx rfl rfl) rfl sim_int) (simS_cons (simS_For cx.ok (storable cx rfl rfl) (fun _ => rfl) (sim_sortedR cx rfl rfl gl_sorted (simA_cons (sim_call cx rfl rfl gl_list (.type _) (op_list cx.lv) (simA_cons (sim_values cx rfl rfl) simA_nil)) simA_nil)) (simS_cons (simS_AssignComp cx (storable cx rfl rfl) (compOk_of rfl rfl) (fun _ => rfl) rfl (sim_name cx rfl rfl) (fun _ _ cx => (simT_one (simB_Cmp1 cmp_ge rfl (sim_Sub (fun _ _ => rfl) (sim_name cx rfl rfl) (sim_name cx rfl rfl)) (sim_name cx rfl rfl)))) (fun _ _ cx => (sim_name cx rfl rfl))) (simS_cons (simS_If (simB_Cmp1 (cmp_eq cx.lv) rfl (sim_name cx rfl rfl) (sim_List simA_nil)) (simS_cons (simS_Return sim_bool) simS_nil) simS_nil) (simS_cons (simS_remove cx rfl rfl rfl rfl rfl rfl (sim_Sub (fun _ _ => rfl) (sim_name cx rfl rfl) (sim_BinOp op_mod (sim_call cx rfl rfl gl_law_cell cl_law_cell (op_fn_le cx ok_law_cell (by decide)) (simA_cons (sim_name cx rfl rfl) (simA_cons (sim_BinOp op_add sim_int (sim_name cx rfl rfl)) simA_nil))) (sim_call cx rfl rfl gl_len (.builtin _) op_len (simA_cons (sim_name cx rfl rfl) simA_nil))))) (simS_cons (simS_Assign cx.ok (storable cx rfl rfl) rfl (sim_BinOp op_add (sim_name cx rfl rfl) sim_int)) simS_nil))))) (simS_cons (simS_Return sim_bool) simS_nil)))))
noncomputable def sp_law : FnM := aFnX exportV ["_law_script"] (fun n₀ => (sSeq (sAssign "_law_night" (aCall sp_law_night_by [(aName "_law_script")])) (sSeq (sAssign "_law_handed" (aTup [(aCall bList [(aSub (aName "_law_night") (aInt 0))]), (aCall bList [(aSub (aName "_law_night") (aInt 1))]), (aCall bDict [(aSub (aName "_law_night") (aInt 2))])])) (sSeq (sAssign "_law_found" (aCall sp_short_kind [(aSub (aName "_law_handed") (aInt 0)), (aSub (aName "_law_handed") (aInt 1)), (aSub (aName "_law_handed") (aInt 2))])) (sSeq (sAssign "_law_due" (aCall sp_law_short [(aSub (aName "_law_night") (aInt 0)), (aSub (aName "_law_night") (aInt 1)), (aSub (aName "_law_night") (aInt 2))])) (sSeq (sIf (bOr [(bAnd [(bCmp cIsNot (aName "_law_found") aNone), (bNot (bVal (aCall sp_law_whole [(aName "_law_found")])))]), (bCmp cNe (aName "_law_found") (aName "_law_due")), (bCmp cNe (aName "_law_handed") (aUpTup (aName "_law_night") (aInt 3)))]) (sSeq (sRet (aBool false)) sNil) sNil) (sSeq (sIf (bOr [(bCmp cNe (aCall sp_short_kind [(aSub (aName "_law_handed") (aInt 0)), (aSub (aName "_law_handed") (aInt 1)), (aSub (aName "_law_handed") (aInt 2))]) (aName "_law_due")), (bCmp cNe (aCall bList [(aSub (aName "_law_handed") (aInt 2))]) (aCall bList [(aSub (aName "_law_night") (aInt 2))]))]) (sSeq (sRet (aBool false)) sNil) sNil) (sSeq (sRet (aCmp cEq (aCall sp_law_all_roomed [(aName "_law_script"), (aSub (aName "_law_night") (aInt 0)), (aSub (aName "_law_night") (aInt 1)), (aSub (aName "_law_night") (aInt 2))]) (aCmp cIs (aName "_law_due") aNone))) sNil))))))))
theorem ok_law {prog : Program} {w : World} {P : Params} : FnOk prog w (Gr (hd3.heap_39 P)) 4 107 sp_law := by
  refine fn_def exp_V (K := hd3.heap_39 P) (f := 107) (k := 3) (ps := ["_law_script"]) (ho := by k_is) (hcd := by k_is) (bind1 fun _ => rfl) rfl rfl rfl rfl rfl ?_
  intro A L h₀ n₀ cx
  exact (simS_cons (simS_Assign cx.ok (storable cx rfl rfl) rfl (sim_call cx rfl rfl gl_law_night_by cl_law_night_by (op_fn_le cx ok_law_night_by (by decide)) (simA_cons (sim_name cx rfl rfl) simA_nil))) (simS_cons (simS_Assign cx.ok (storable cx rfl rfl) rfl (sim_Tuple (simA_cons (sim_call cx rfl rfl gl_list (.type _) (op_list cx.lv) (simA_cons (sim_Sub (fun _ _ => rfl) (sim_name cx rfl rfl) sim_int) simA_nil)) (simA_cons (sim_call cx rfl rfl gl_list (.type _) (op_list cx.lv) (simA_cons (sim_Sub (fun _ _ => rfl) (sim_name cx rfl rfl) sim_int) simA_nil)) (simA_cons (sim_call cx rfl rfl gl_dict (.type _) (op_dict cx.lv cx gr_low) (simA_cons (sim_Sub (fun _ _ => rfl) (sim_name cx rfl rfl) sim_int) simA_nil)) simA_nil))))) (simS_cons (simS_Assign cx.ok (storable cx rfl rfl) rfl (sim_call cx rfl rfl gl_short_kind cl_short_kind (op_fn_le cx ok_short_kind (by decide)) (simA_cons (sim_Sub (fun _ _ => rfl) (sim_name cx rfl rfl) sim_int) (simA_cons (sim_Sub (fun _ _ => rfl) (sim_name cx rfl rfl) sim_int) (simA_cons (sim_Sub (fun _ _ => rfl) (sim_name cx rfl rfl) sim_int) simA_nil))))) (simS_cons (simS_Assign cx.ok (storable cx rfl rfl) rfl (sim_call cx rfl rfl gl_law_short cl_law_short (op_fn_le cx ok_law_short (by decide)) (simA_cons (sim_Sub (fun _ _ => rfl) (sim_name cx rfl rfl) sim_int) (simA_cons (sim_Sub (fun _ _ => rfl) (sim_name cx rfl rfl) sim_int) (simA_cons (sim_Sub (fun _ _ => rfl) (sim_name cx rfl rfl) sim_int) simA_nil))))) (simS_cons (simS_If (simB_or (simOr_cons (simB_and (simAnd_cons (simB_Cmp1 cmp_isNot rfl (sim_name cx rfl rfl) sim_none) (simAnd_cons (simB_not (simB_val (fun _ => rfl) (sim_call cx rfl rfl gl_law_whole cl_law_whole (op_fn_le cx ok_law_whole (by decide)) (simA_cons (sim_name cx rfl rfl) simA_nil)))) simAnd_nil))) (simOr_cons (simB_Cmp1 (cmp_ne cx.lv) rfl (sim_name cx rfl rfl) (sim_name cx rfl rfl)) (simOr_cons (simB_Cmp1 (cmp_ne cx.lv) rfl (sim_name cx rfl rfl) (sim_upTup (sim_name cx rfl rfl) sim_int (fun _ _ => rfl))) simOr_nil)))) (simS_cons (simS_Return sim_bool) simS_nil) simS_nil) (simS_cons (simS_If (simB_or (simOr_cons (simB_Cmp1 (cmp_ne cx.lv) rfl (sim_call cx rfl rfl gl_short_kind cl_short_kind (op_fn_le cx ok_short_kind (by decide)) (simA_cons (sim_Sub (fun _ _ => rfl) (sim_name cx rfl rfl) sim_int) (simA_cons (sim_Sub (fun _ _ => rfl) (sim_name cx rfl rfl) sim_int) (simA_cons (sim_Sub (fun _ _ => rfl) (sim_name cx rfl rfl) sim_int) simA_nil)))) (sim_name cx rfl rfl)) (simOr_cons (simB_Cmp1 (cmp_ne cx.lv) rfl (sim_call cx rfl rfl gl_list (.type _) (op_list cx.lv) (simA_cons (sim_Sub (fun _ _ => rfl) (sim_name cx rfl rfl) sim_int) simA_nil)) (sim_call cx rfl rfl gl_list (.type _) (op_list cx.lv) (simA_cons (sim_Sub (fun _ _ => rfl) (sim_name cx rfl rfl) sim_int) simA_nil))) simOr_nil))) (simS_cons (simS_Return sim_bool) simS_nil) simS_nil) (simS_cons (simS_Return (sim_Cmp1 (cmp_eq cx.lv) rfl (sim_call cx rfl rfl gl_law_all_roomed cl_law_all_roomed (op_fn_le cx ok_law_all_roomed (by decide)) (simA_cons (sim_name cx rfl rfl) (simA_cons (sim_Sub (fun _ _ => rfl) (sim_name cx rfl rfl) sim_int) (simA_cons (sim_Sub (fun _ _ => rfl) (sim_name cx rfl rfl) sim_int) (simA_cons (sim_Sub (fun _ _ => rfl) (sim_name cx rfl rfl) sim_int) simA_nil))))) (sim_Cmp1 cmp_is rfl (sim_name cx rfl rfl) sim_none))) simS_nil)))))))
end Inn
end
section
set_option maxRecDepth 10000
set_option linter.unusedVariables false
set_option linter.unusedSimpArgs false
namespace Inn
open PySem
theorem wF_get {F : FnM} {vs σ a b} (h : wF F vs σ fun v s => v = a ∧ s = b) : F vs σ = some (a, b) := by
  obtain ⟨v, s, e, rfl, rfl⟩ := h; exact e
theorem w2_add {a b : Int} {σ Q} : w2 opAdd (.int a) (.int b) σ Q ↔ Q (.int (a + b)) σ := by
  constructor
  · rintro ⟨v, s, e, q⟩; cases e; exact q
  · intro q; exact ⟨_, _, rfl, q⟩
theorem w2_add_e {a b : Int} {σ Q} : (w2 opAdd (.int a) (.int b) σ Q) = (Q (.int (a + b)) σ) := propext (w2_add)
theorem w2_sub {a b : Int} {σ Q} : w2 opSub (.int a) (.int b) σ Q ↔ Q (.int (a - b)) σ := by
  constructor
  · rintro ⟨v, s, e, q⟩; cases e; exact q
  · intro q; exact ⟨_, _, rfl, q⟩
theorem w2_sub_e {a b : Int} {σ Q} : (w2 opSub (.int a) (.int b) σ Q) = (Q (.int (a - b)) σ) := propext (w2_sub)
theorem w2_mod {a b : Int} {σ Q} : w2 opMod (.int a) (.int b) σ Q ↔ b ≠ 0 ∧ Q (.int (a.fmod b)) σ := by
  constructor
  · rintro ⟨v, s, e, q⟩
    simp only [opMod, ii] at e
    split at e
    · cases e
    · cases e; exact ⟨by assumption, q⟩
  · rintro ⟨h, q⟩; exact ⟨_, _, by simp [opMod, ii, h], q⟩
theorem w2_mod_e {a b : Int} {σ Q} : (w2 opMod (.int a) (.int b) σ Q) = (b ≠ 0 ∧ Q (.int (a.fmod b)) σ) := propext (w2_mod)
theorem w2_div {a b : Int} {σ Q} : w2 opDiv (.int a) (.int b) σ Q ↔ (0 < b ∧ b < 1000000000) ∧ Q (.int (a.fdiv b)) σ := by
  constructor
  · rintro ⟨v, s, e, q⟩
    simp only [opDiv, ii] at e
    split at e
    · cases e; exact ⟨by assumption, q⟩
    · cases e
  · rintro ⟨h, q⟩; exact ⟨_, _, by simp [opDiv, ii, h], q⟩
theorem w2_div_e {a b : Int} {σ Q} : (w2 opDiv (.int a) (.int b) σ Q) = ((0 < b ∧ b < 1000000000) ∧ Q (.int (a.fdiv b)) σ) := propext (w2_div)
theorem w2_mul {a b : Int} {σ Q} : w2 opMul (.int a) (.int b) σ Q ↔ (smallI a ∨ smallI b) ∧ Q (.int (a * b)) σ := by
  constructor
  · rintro ⟨v, s, e, q⟩
    simp only [opMul] at e
    split at e
    · cases e; exact ⟨by assumption, q⟩
    · cases e
  · rintro ⟨h, q⟩; exact ⟨_, _, by simp [opMul, h], q⟩
theorem w2_mul_e {a b : Int} {σ Q} : (w2 opMul (.int a) (.int b) σ Q) = ((smallI a ∨ smallI b) ∧ Q (.int (a * b)) σ) := propext (w2_mul)
theorem w2_pow {a b : Int} {σ Q} : w2 opPow (.int a) (.int b) σ Q ↔ (a = 10 ∧ 0 < b ∧ b < 1000) ∧ Q (.int (a ^ b.toNat)) σ := by
  constructor
  · rintro ⟨v, s, e, q⟩
    simp only [opPow, ii] at e
    split at e
    · cases e; exact ⟨by assumption, q⟩
    · cases e
  · rintro ⟨h, q⟩; exact ⟨_, _, by simp [opPow, ii, h], q⟩
theorem w2_pow_e {a b : Int} {σ Q} : (w2 opPow (.int a) (.int b) σ Q) = ((a = 10 ∧ 0 < b ∧ b < 1000) ∧ Q (.int (a ^ b.toNat)) σ) := propext (w2_pow)
theorem wC_lt {a b : Int} {σ Q} : wC cLt (.int a) (.int b) σ Q ↔ Q (decide (a < b)) := by simp [wC, cLt, ii]
theorem wC_lt_e {a b : Int} {σ Q} : (wC cLt (.int a) (.int b) σ Q) = (Q (decide (a < b))) := propext (wC_lt)
theorem wC_gt {a b : Int} {σ Q} : wC cGt (.int a) (.int b) σ Q ↔ Q (decide (b < a)) := by simp [wC, cGt, ii]
theorem wC_gt_e {a b : Int} {σ Q} : (wC cGt (.int a) (.int b) σ Q) = (Q (decide (b < a))) := propext (wC_gt)
theorem wC_ge {a b : Int} {σ Q} : wC cGe (.int a) (.int b) σ Q ↔ Q (decide (b ≤ a)) := by simp [wC, cGe, ii]
theorem wC_ge_e {a b : Int} {σ Q} : (wC cGe (.int a) (.int b) σ Q) = (Q (decide (b ≤ a))) := propext (wC_ge)
theorem wC_eqi {a b : Int} {σ Q} : wC cEq (.int a) (.int b) σ Q ↔ Q (a == b) := by simp [wC, cEq, aEq]
theorem wC_eqi_e {a b : Int} {σ Q} : (wC cEq (.int a) (.int b) σ Q) = (Q (a == b)) := propext (wC_eqi)
theorem wC_eqb {a b : Bool} {σ Q} : wC cEq (.bool a) (.bool b) σ Q ↔ Q (a == b) := by simp [wC, cEq, aEq]
theorem wC_eqb_e {a b : Bool} {σ Q} : (wC cEq (.bool a) (.bool b) σ Q) = (Q (a == b)) := propext (wC_eqb)
theorem pairs_ints {n : Nat} {σ : Store} : ∀ (ms ns : List Int), ms.length = ns.length → pairsEq (aEq (n + 1) σ) (ms.map .int) (ns.map .int) = some (ms == ns)
  | [], [], _ => rfl
  | [], _ :: _, h => by simp at h
  | _ :: _, [], h => by simp at h
  | a :: ms, b :: ns, h => by
    have ih := pairs_ints (n := n) (σ := σ) ms ns (by simpa using h)
    have e : aEq (n + 1) σ (.int a) (.int b) = some (a == b) := rfl
    simp only [List.map_cons, pairsEq, ih, e, Option.bind_some, Option.map_some, List.cons_beq_cons]
theorem aEq_ints {σ : Store} {i j : Nat} {ms ns : List Int} (h1 : σ[i]? = some (.list (ms.map .int))) (h2 : σ[j]? = some (.list (ns.map .int))) : aEq 6 σ (.ref i) (.ref j) = some (ms == ns) := by
  unfold aEq
  simp only [h1, h2, List.length_map]
  split
  · rename_i h; exact pairs_ints ms ns h
  · rename_i h
    have : ms ≠ ns := fun e => h (by rw [e])
    have e : (ms == ns) = false := by simpa using this
    rw [e]
theorem wC_eqL {σ : Store} {i j : Nat} {ms ns : List Int} {Q} (h1 : σ[i]? = some (.list (ms.map .int))) (h2 : σ[j]? = some (.list (ns.map .int))) : wC cEq (.ref i) (.ref j) σ Q ↔ Q (ms == ns) := by
  simp [wC, cEq, aEq_ints h1 h2]
theorem wC_neL {σ : Store} {i j : Nat} {ms ns : List Int} {Q} (h1 : σ[i]? = some (.list (ms.map .int))) (h2 : σ[j]? = some (.list (ns.map .int))) : wC cNe (.ref i) (.ref j) σ Q ↔ Q (!(ms == ns)) := by
  constructor
  · rintro ⟨v, e, q⟩; simp only [cNe, aEq_ints h1 h2, Option.map_some, Option.some.injEq] at e; subst e; exact q
  · intro q; exact ⟨_, by simp only [cNe, aEq_ints h1 h2, Option.map_some], q⟩
theorem wF_len {σ : Store} {i : Nat} {vs : List AV} {Q} (h : σ[i]? = some (.list vs)) : wF bLen [.ref i] σ Q ↔ Q (.int vs.length) σ := wF_eq ((congrArg (fun o : Option AO => o.bind _) h).trans rfl)
theorem w2_item {σ : Store} {i : Nat} {vs : List AV} {k : Int} {v : AV} {Q} (h : σ[i]? = some (.list vs)) (h0 : 0 ≤ k) (e : vs[k.toNat]? = some v) : w2 getI (.ref i) (.int k) σ Q ↔ Q v σ := by
  have e' : getI (.ref i) (.int k) σ = some (v, σ) := by simp [getI, h, h0, e]
  constructor
  · rintro ⟨v', s, e1, q⟩; rw [e'] at e1; cases e1; exact q
  · intro q; exact ⟨_, _, e', q⟩
theorem compItems_ints {x : Str} {t : AM Bool} {m : AM AV} {ρ : AEnv} {σ : Store} (p : Int → Bool) (f : Int → AV) : ∀ (ns : List Int),
    (∀ n ∈ ns, wA t (upd ρ x (.int n)) σ fun b σ1 => b = p n ∧ (p n = true → wA m (upd ρ x (.int n)) σ1 fun u _ => u = f n ∧ (f n).closed σ.length = true)) →
    compItems x t m ρ σ (ns.map .int) = some ((ns.filter p).map f)
  | [], _ => rfl
  | v :: vs, h => by
    obtain ⟨b, σ1, e1, rfl, e2⟩ := h v (.head _)
    have ih := compItems_ints p f vs fun u hu => h u (.tail _ hu)
    rw [List.map_cons, compItems, e1]
    cases hp : p v with
    | false => simp [hp, ih]
    | true =>
      obtain ⟨u, σ2, e3, rfl, e4⟩ := e2 hp
      simp [hp, e3, e4, ih]
theorem wA_compI {x src t m ρ σ} {Q : AV → Store → Prop} (p : Int → Bool) (f : Int → AV) (h : wA src ρ σ fun v σ1 => ∃ ns : List Int, itemsOf v σ1 = some (ns.map .int) ∧
    (∀ n ∈ ns, wA t (upd ρ x (.int n)) σ1 fun b σ2 => b = p n ∧ (p n = true → wA m (upd ρ x (.int n)) σ2 fun u _ => u = f n ∧ (f n).closed σ1.length = true)) ∧ Q (.ref σ1.length) (σ1 ++ [.list ((ns.filter p).map f)])) :
    wA (aComp x src t m) ρ σ Q := by
  rw [wA_comp]
  refine h.mono fun v σ1 h => ?_
  obtain ⟨ns, e1, e2, q⟩ := h
  exact ⟨_, _, e1, compItems_ints p f ns e2, q⟩
theorem wA_compM {x src m ρ σ} {Q : AV → Store → Prop} (f : Int → AV) (h : wA src ρ σ fun v σ1 => ∃ ns : List Int, itemsOf v σ1 = some (ns.map .int) ∧
    (∀ n ∈ ns, wA m (upd ρ x (.int n)) σ1 fun u _ => u = f n ∧ (f n).closed σ1.length = true) ∧ Q (.ref σ1.length) (σ1 ++ [.list (ns.map f)])) :
    wA (aComp x src (bAnd []) m) ρ σ Q := by
  refine wA_compI (fun _ => true) f (h.mono fun v σ1 h => ?_)
  obtain ⟨ns, e1, e2, q⟩ := h
  refine ⟨ns, e1, fun n hn => ?_, ?_⟩
  · rw [wA_band_nil]; exact ⟨rfl, fun _ => e2 n hn⟩
  · rw [List.filter_eq_self.mpr (fun _ _ => rfl)]; exact q
noncomputable def rgI (lo hi : Int) : List Int := (List.range (hi - lo).toNat).map fun k : Nat => lo + (k : Int)
theorem rngL_eq (lo hi : Int) : rngL lo hi = (rgI lo hi).map .int := by simp [rngL, rgI]
theorem rgI_mem {lo hi n : Int} (h : n ∈ rgI lo hi) : lo ≤ n ∧ n < hi := by
  simp only [rgI, List.mem_map, List.mem_range] at h
  obtain ⟨k, hk, rfl⟩ := h
  exact ar_286 hk
theorem rgI_length (lo hi : Int) : (rgI lo hi).length = (hi - lo).toNat := by simp [rgI]
theorem items_rng {lo hi : Int} {σ : Store} (h : -1000000 ≤ lo ∧ lo ≤ 1000000 ∧ hi ≤ 1000000 ∧ -1000000 ≤ hi ∧ hi - lo ≤ 1000000) : itemsOf (.rng lo hi) σ = some ((rgI lo hi).map .int) := by
  have : rangeOk lo hi ∧ hi - lo ≤ 1000000 := ⟨by unfold rangeOk; omega, by exact ar_288 h⟩
  simp only [itemsOf, if_pos this, rngL_eq]
theorem items_list {i : Nat} {vs : List AV} {σ : Store} (h : σ[i]? = some (.list vs)) : itemsOf (.ref i) σ = some vs := by simp [itemsOf, h]
theorem wF_range1 {b : Int} {σ Q} : wF bRange [.int b] σ Q ↔ Q (.rng 0 b) σ := wF_eq rfl
theorem wF_range1_e {b : Int} {σ Q} : (wF bRange [.int b] σ Q) = (Q (.rng 0 b) σ) := propext (wF_range1)
theorem wF_listL {σ : Store} {i : Nat} {vs : List AV} {Q} (h : σ[i]? = some (.list vs)) : wF bList [.ref i] σ Q ↔ Q (.ref σ.length) (σ ++ [.list vs]) := wF_eq (by simp [bList, h])
theorem wS_cut {a b : AS} {ρ σ} {Q : AF → AEnv → Store → Prop} (I : AEnv → Store → Prop) (h : wS a ρ σ fun f ρ' σ' => f = .next ∧ I ρ' σ') (k : ∀ ρ' σ', I ρ' σ' → wS b ρ' σ' Q) : wS (sSeq a b) ρ σ Q := by
  rw [wS_seq]
  refine h.mono fun f ρ' σ' h => ?_
  obtain ⟨rfl, h⟩ := h
  exact k _ _ h
theorem wS_if_of {t : AM Bool} {a b : AS} {ρ σ} {Q : AF → AEnv → Store → Prop} (P : Bool → Store → Prop) (ht : wA t ρ σ P) (ha : ∀ σ1, P true σ1 → wS a ρ σ1 Q) (hb : ∀ σ1, P false σ1 → wS b ρ σ1 Q) : wS (sIf t a b) ρ σ Q := by
  rw [wS_if]
  refine ht.mono fun v σ1 h => ?_
  cases v with
  | true => exact ha _ h
  | false => exact hb _ h
theorem wS_assignC {y x src t m ρ σ Q} : wS (sAssignC y x src t m) ρ σ Q ↔ wA (aComp x src t m) ρ σ fun v σ1 => Q .next (upd ρ y v) σ1 := wS_assign
theorem w2_mulL {σ : Store} {i : Nat} {vs : List AV} {b : Int} {Q} (h : σ[i]? = some (.list vs)) (hb : 0 ≤ b ∧ (vs.length : Int) * b ≤ 1000000 ∧ b < 1000000) : w2 opMul (.ref i) (.int b) σ Q ↔ Q (.ref σ.length) (σ ++ [.list (List.replicate b.toNat vs).flatten]) := by
  have e' : opMul (.ref i) (.int b) σ = some (.ref σ.length, σ ++ [.list (List.replicate b.toNat vs).flatten]) := by simp only [opMul, h]; rw [if_pos hb]
  constructor
  · rintro ⟨v', s, e1, q⟩; rw [e'] at e1; cases e1; exact q
  · intro q; exact ⟨_, _, e', q⟩
theorem w2_addL {σ : Store} {i j : Nat} {vs ws : List AV} {Q} (h : σ[i]? = some (.list vs)) (h' : σ[j]? = some (.list ws)) (hb : vs.length + ws.length ≤ 1000000) : w2 opAdd (.ref i) (.ref j) σ Q ↔ Q (.ref σ.length) (σ ++ [.list (vs ++ ws)]) := by
  have e' : opAdd (.ref i) (.ref j) σ = some (.ref σ.length, σ ++ [.list (vs ++ ws)]) := by simp only [opAdd, h, h']; rw [if_pos hb]
  constructor
  · rintro ⟨v', s, e1, q⟩; rw [e'] at e1; cases e1; exact q
  · intro q; exact ⟨_, _, e', q⟩
theorem upd_same {ρ : AEnv} {x : Str} {v : AV} : upd ρ x v x = some v := by simp [upd]
noncomputable def Ext (σ σ' : Store) : Prop := ∃ τ, σ' = σ ++ τ
theorem ext_refl {σ : Store} : Ext σ σ := ⟨[], by simp⟩
theorem ext_refl_e {σ : Store} : (Ext σ σ) = True := eq_true (ext_refl)
theorem ext_app {σ σ' τ : Store} (h : Ext σ σ') : Ext σ (σ' ++ τ) := by obtain ⟨τ', rfl⟩ := h; exact ⟨τ' ++ τ, by simp⟩
theorem ext_app_e {σ σ' τ : Store} (h : Ext σ σ') : (Ext σ (σ' ++ τ)) = True := eq_true (ext_app h)
theorem ext_self {σ τ : Store} : Ext σ (σ ++ τ) := ⟨τ, rfl⟩
theorem Ext.trans {a b c : Store} (x : Ext a b) (y : Ext b c) : Ext a c := by obtain ⟨t, rfl⟩ := x; obtain ⟨u, rfl⟩ := y; exact ⟨t ++ u, by simp⟩
theorem Ext.get {σ σ' : Store} {i : Nat} {o : AO} (h : Ext σ σ') (e : σ[i]? = some o) : σ'[i]? = some o := by obtain ⟨τ, rfl⟩ := h; exact app_get e
theorem Ext.len {σ σ' : Store} (h : Ext σ σ') : σ.length ≤ σ'.length := by obtain ⟨τ, rfl⟩ := h; simp
theorem Ext.set {σ σ' : Store} {j : Nat} {o : AO} (x : Ext σ σ') (h : σ.length ≤ j) : Ext σ (σ'.set j o) := by
  obtain ⟨τ, rfl⟩ := x
  exact ⟨τ.set (j - σ.length) o, by rw [List.set_append_right _ _ h]⟩
noncomputable def kindV : List Int → Int → Nat
  | [], _ => 0
  | n :: ns, r => if n ≤ r then kindV ns (r - n) + 1 else 0
noncomputable def firstV (ns : List Int) (k : Nat) : Int := (ns.take k).sum
noncomputable def houseV (ns : List Int) : Bool := decide (1 ≤ ns.length) && decide (ns.length ≤ 6) && ns.all fun n => decide (0 ≤ n) && decide (n ≤ 9)
noncomputable def kindsO : List Int → Nat → List Int
  | [], _ => []
  | n :: r, o => List.replicate n.toNat (o : Int) ++ kindsO r (o + 1)
theorem kindsO_snoc (a : Int) : ∀ (l : List Int) (o : Nat), kindsO (l ++ [a]) o = kindsO l o ++ List.replicate a.toNat ((o + l.length : Nat) : Int)
  | [], o => by simp [kindsO]
  | n :: r, o => by
    have := kindsO_snoc a r (o + 1)
    simp only [List.cons_append, kindsO, this, List.length_cons, List.append_assoc]
    rw [show o + 1 + r.length = o + (r.length + 1) by exact ar_289]
theorem kindsO_len : ∀ (l : List Int) (o : Nat), (∀ n ∈ l, 0 ≤ n) → ((kindsO l o).length : Int) = l.sum
  | [], o, _ => rfl
  | n :: r, o, h => by
    have ih := kindsO_len r (o + 1) fun m hm => h m (.tail _ hm)
    have := h n (.head _)
    simp only [kindsO, List.length_append, List.length_replicate, List.sum_cons]
    push_cast
    exact ar_290 ih this
theorem kindsO_get : ∀ (l : List Int) (o : Nat) (r : Nat), (∀ n ∈ l, 0 ≤ n) → (r : Int) < l.sum → (kindsO l o)[r]? = some ((o + kindV l r : Nat) : Int)
  | [], o, r, _, h => by simp at h; omega
  | n :: l, o, r, hn, h => by
    have h0 := hn n (.head _)
    simp only [kindsO, kindV]
    by_cases hr : n ≤ r
    · have ih := kindsO_get l (o + 1) (r - n.toNat) (fun m hm => hn m (.tail _ hm)) (by simp at h; exact ar_291 h hr)
      rw [List.getElem?_append_right (by simp; exact ar_292 hr), List.length_replicate, ih, if_pos hr]
      have e : ((r - n.toNat : Nat) : Int) = r - n := by exact ar_293 h0 hr
      rw [e]
      congr 2
      exact ar_289
    · rw [List.getElem?_append_left (by simp; exact Int.lt_of_not_ge hr), if_neg hr]
      rw [List.getElem?_replicate, if_pos (by exact ar_295 hr)]
      simp
theorem sum_take_nonneg (l : List Int) (k : Nat) (h : ∀ n ∈ l, 0 ≤ n) : 0 ≤ (l.take k).sum := by
  have key : ∀ l : List Int, (∀ n ∈ l, 0 ≤ n) → 0 ≤ l.sum := by
    intro l
    induction l with
    | nil => simp
    | cons a r ih => intro hh; have := hh a (.head _); have := ih fun n hn => hh n (.tail _ hn); simp; omega
  exact key _ fun n hn => h n (List.mem_of_mem_take hn)
theorem house_iff {ns : List Int} : houseV ns = true ↔ (1 ≤ ns.length ∧ ns.length ≤ 6) ∧ ∀ n ∈ ns, 0 ≤ n ∧ n ≤ 9 := by
  simp [houseV, and_assoc]
theorem first_le {l : List Int} {k : Nat} {a : Int} (hn : ∀ n ∈ l, 0 ≤ n) (h : l[k]? = some a) : 0 ≤ firstV l k ∧ 0 ≤ a ∧ firstV l k + a ≤ l.sum := by
  refine ⟨sum_take_nonneg l k hn, hn a (List.mem_of_getElem? h), ?_⟩
  have hk : k < l.length := (List.getElem?_eq_some_iff.mp h).1
  have e : l = l.take k ++ a :: l.drop (k + 1) := by
    have : l[k] = a := by simpa [hk] using h
    rw [← this, List.getElem_cons_drop, List.take_append_drop]
  have e2 : l.sum = firstV l k + (a + (l.drop (k + 1)).sum) := by
    conv => lhs; rw [e]
    simp [firstV]
  have : 0 ≤ (l.drop (k + 1)).sum := by
    have := sum_take_nonneg (l.drop (k + 1)) (l.drop (k + 1)).length fun n hn' => hn n (List.mem_of_mem_drop hn')
    rwa [List.take_length] at this
  exact ar_296 this e2
theorem sum_le {l : List Int} (h : ∀ n ∈ l, 0 ≤ n ∧ n ≤ 9) : 0 ≤ l.sum ∧ l.sum ≤ 9 * l.length := by
  induction l with
  | nil => simp
  | cons a r ih => have := h a (.head _); have := ih fun n hn => h n (.tail _ hn); simp only [List.sum_cons, List.length_cons]; push_cast; omega
theorem set_get_ne {σ : Store} {a b : Nat} {o o' : AO} (h : σ[b]? = some o) (hne : a ≠ b) : (σ.set a o')[b]? = some o := by
  rw [List.getElem?_set_ne hne]; exact h
end Inn
end
section
set_option maxRecDepth 10000
set_option linter.unusedVariables false
set_option linter.unusedSimpArgs false
namespace Inn
open PySem PySem.W
theorem wA_dict0 {ρ σ Q} : wA aDict0 ρ σ Q ↔ Q (.ref σ.length) (σ ++ [.dict []]) := by
  constructor
  · rintro ⟨v, σ', e, q⟩; cases e; exact q
  · intro q; exact ⟨_, _, rfl, q⟩
theorem wA_dict0_e {ρ σ Q} : (wA aDict0 ρ σ Q) = (Q (.ref σ.length) (σ ++ [.dict []])) := propext (wA_dict0)
theorem wA_values {x : Str} {ρ : AEnv} {σ : Store} {Q} {i : Nat} {kvs} (h : ρ x = some (.ref i)) (e : σ[i]? = some (.dict kvs)) : wA (aValues x) ρ σ Q ↔ Q (.vals i) σ := by
  have e' : aValues x ρ σ = some (.vals i, σ) := by simp [aValues, h, e]
  constructor
  · rintro ⟨v, s, e1, q⟩; rw [e'] at e1; cases e1; exact q
  · intro q; exact ⟨_, _, e', q⟩
theorem w2_get {σ : Store} {i : Nat} {kvs : List (Int × AV)} {k : Int} {v : AV} {Q} (h : σ[i]? = some (.dict kvs)) (e : look kvs k = some v) : w2 getI (.ref i) (.int k) σ Q ↔ Q v σ := by
  have e' : getI (.ref i) (.int k) σ = some (v, σ) := by simp [getI, h, e]
  constructor
  · rintro ⟨v', s, e1, q⟩; rw [e'] at e1; cases e1; exact q
  · intro q; exact ⟨_, _, e', q⟩
theorem w2_tup {vs : List AV} {k : Int} {v : AV} {σ Q} (h0 : 0 ≤ k ∧ k < 1000000) (e : vs[k.toNat]? = some v) : w2 getI (.tup vs) (.int k) σ Q ↔ Q v σ := by
  have e' : getI (.tup vs) (.int k) σ = some (v, σ) := by simp only [getI, if_pos h0, e, Option.map_some]
  constructor
  · rintro ⟨v', s, e1, q⟩; rw [e'] at e1; cases e1; exact q
  · intro q; exact ⟨_, _, e', q⟩
theorem w2_tup0 {a b c : AV} {σ Q} : w2 getI (.tup [a, b, c]) (.int 0) σ Q ↔ Q a σ := w2_tup (by decide) rfl
theorem w2_tup1 {a b c : AV} {σ Q} : w2 getI (.tup [a, b, c]) (.int 1) σ Q ↔ Q b σ := w2_tup (by decide) rfl
theorem w2_tup2 {a b c : AV} {σ Q} : w2 getI (.tup [a, b, c]) (.int 2) σ Q ↔ Q c σ := w2_tup (by decide) rfl
theorem w2_pair0 {a b : AV} {σ Q} : w2 getI (.tup [a, b]) (.int 0) σ Q ↔ Q a σ := w2_tup (by decide) rfl
theorem w2_pair1 {a b : AV} {σ Q} : w2 getI (.tup [a, b]) (.int 1) σ Q ↔ Q b σ := w2_tup (by decide) rfl
theorem wF_max {a b : Int} {σ Q} : wF bMax [.int a, .int b] σ Q ↔ Q (.int (if b > a then b else a)) σ := wF_eq rfl
theorem wF_listD {σ : Store} {i : Nat} {kvs : List (Int × AV)} {Q} (h : σ[i]? = some (.dict kvs)) : wF bList [.ref i] σ Q ↔ Q (.ref σ.length) (σ ++ [.list ((kvs.map (·.1)).map .int)]) := wF_eq (by simp [bList, h])
theorem wF_listV {σ : Store} {i : Nat} {kvs : List (Int × AV)} {Q} (h : σ[i]? = some (.dict kvs)) : wF bList [.vals i] σ Q ↔ Q (.ref σ.length) (σ ++ [.list (kvs.map (·.2))]) := wF_eq (by simp [bList, h])
theorem wF_dictD {σ : Store} {i : Nat} {kvs : List (Int × AV)} {Q} (h : σ[i]? = some (.dict kvs)) : wF bDict [.ref i] σ Q ↔ Q (.ref σ.length) (σ ++ [.dict kvs]) := wF_eq (by simp [bDict, h])
theorem wC_is0 {σ Q} : wC cIs .none .none σ Q ↔ Q true := by simp [wC, cIs, isN]
theorem wC_is1 {i σ Q} : wC cIs (.int i) .none σ Q ↔ Q false := by simp [wC, cIs, isN]
theorem wC_isnt0 {σ Q} : wC cIsNot .none .none σ Q ↔ Q false := by simp [wC, cIsNot, isN]
theorem wC_isnt1 {i σ Q} : wC cIsNot (.int i) .none σ Q ↔ Q true := by simp [wC, cIsNot, isN]
theorem wS_setItemD {n₀ x mi m ρ σ} {Q : AF → AEnv → Store → Prop} (h : wA m ρ σ fun v σ1 => ∃ a, ρ x = some (.ref a) ∧ wA mi ρ σ1 fun u σ2 => ∃ kvs, ∃ j : Int, σ1[a]? = some (.dict kvs) ∧ u = .int j ∧ n₀ ≤ a ∧ kvs.length < 1000000 ∧ Q .next ρ (σ2.set a (.dict (put kvs j v)))) :
    wS (sSetItem n₀ x mi m) ρ σ Q := by
  obtain ⟨v, σ1, e1, a, e2, u, σ2, e3, vs, j, e4, rfl, h1, h2, q⟩ := h
  refine ⟨_, _, _, ?_, q⟩
  simp only [sSetItem, e1, e2, e3, e4, Option.bind_some]
  rw [if_pos ⟨h1, h2⟩]
theorem wS_forI {x src b ρ σ} {Q : AF → AEnv → Store → Prop} (i : Nat) (ns : List Int) (I : List Int → AEnv → Store → Prop) (hsrc : wA src ρ σ fun v σ1 => v = .ref i ∧ I [] ρ σ1) (hk : ∀ d ρ σ, I d ρ σ → σ[i]? = some (.list (ns.map .int)))
    (hs : ∀ d n r ρ σ, ns = d ++ n :: r → I d ρ σ → wS b (upd ρ x (.int n)) σ fun f ρ' σ' => match f with | .next => I (d ++ [n]) ρ' σ' | .ret u => Q (.ret u) ρ' σ') (hq : ∀ ρ σ, I ns ρ σ → Q .next ρ σ) : wS (sFor x src b) ρ σ Q := by
  have key : ∀ (r d : List Int) ρ σ, ns = d ++ r → I d ρ σ → wS (forL i (ns.map .int) x b (r.map .int)) ρ σ Q := by
    intro r
    induction r with
    | nil =>
      intro d ρ σ e hI
      rw [List.append_nil] at e; subst e
      exact ⟨_, _, _, by simp only [List.map_nil, forL, if_pos (hk _ _ _ hI)], hq _ _ hI⟩
    | cons n r ih =>
      intro d ρ σ e hI
      obtain ⟨f, ρ', σ', e1, q⟩ := hs d n r ρ σ e hI
      cases f with
      | next =>
        obtain ⟨f2, ρ2, σ2, e2, q2⟩ := ih (d ++ [n]) ρ' σ' (by simp [e]) q
        exact ⟨f2, ρ2, σ2, by simp only [List.map_cons, forL, if_pos (hk _ _ _ hI), e1, Option.bind_some, e2], q2⟩
      | ret u => exact ⟨_, _, _, by simp only [List.map_cons, forL, if_pos (hk _ _ _ hI), e1, Option.bind_some], q⟩
  rw [wS_for]
  refine hsrc.mono fun v σ1 h => ?_
  obtain ⟨rfl, h⟩ := h
  obtain ⟨f, ρ', σ', e, q⟩ := key ns [] ρ σ1 rfl h
  exact ⟨f, ρ', σ', by simp only [hk _ _ _ h]; exact e, q⟩
theorem items_dict {i : Nat} {kvs : List (Int × AV)} {σ : Store} (h : σ[i]? = some (.dict kvs)) : itemsOf (.ref i) σ = some ((kvs.map (·.1)).map .int) := by simp [itemsOf, h]
theorem look_cons {k n : Int} {v : AV} {r} : look ((k, v) :: r) n = if k = n then some v else look r n := by
  unfold look
  rw [List.find?_cons]
  by_cases h : k = n <;> simp [h]
theorem put_keys {kvs : List (Int × AV)} {k : Int} {v : AV} (h : (kvs.map (·.1)).Nodup) : ((put kvs k v).map (·.1)).Nodup := by
  unfold put
  split
  · have : (kvs.map fun kv => if kv.1 = k then (kv.1, v) else kv).map (·.1) = kvs.map (·.1) := by
      rw [List.map_map]
      refine List.map_congr_left fun p _ => ?_
      simp only [Function.comp]; split <;> rfl
    rw [this]; exact h
  · rename_i hn
    rw [List.map_append, List.nodup_append]
    refine ⟨h, by simp, fun a ha b hb => ?_⟩
    simp only [List.map_cons, List.map_nil, List.mem_singleton] at hb
    subst hb
    intro e; subst e
    obtain ⟨p, hp, rfl⟩ := List.mem_map.mp ha
    exact hn (List.any_eq_true.mpr ⟨p, hp, by simp⟩)
end Inn
end
section
set_option maxRecDepth 10000
set_option linter.unusedVariables false
set_option linter.unusedSimpArgs false
namespace Inn
open PySem PySem.W
noncomputable def atL (l : List Int) (k : Int) : Nat := (l.filter fun x => decide (k ≤ x)).length
theorem atL_map (f : Int → Int) (l : List Int) (k : Int) : atL (l.map f) k = (l.filter fun x => decide (k ≤ f x)).length := by
  unfold atL
  rw [List.filter_map, List.length_map]; rfl
noncomputable def getW (ws : List (Int × Int)) (n : Int) : Int := ((ws.find? fun p => decide (p.1 = n)).map (·.2)).getD 0
noncomputable def inD (ws : List (Int × Int)) : List (Int × AV) := ws.map fun p => (p.1, .int p.2)
theorem inD_keys (ws : List (Int × Int)) : (inD ws).map (·.1) = ws.map (·.1) := by simp [inD]
theorem inD_len (ws : List (Int × Int)) : (inD ws).length = ws.length := by simp [inD]
theorem inD_vals (ws : List (Int × Int)) : (inD ws).map (·.2) = (ws.map (·.2)).map .int := by simp [inD]
theorem inD_look : ∀ {ws : List (Int × Int)} {n : Int}, n ∈ ws.map (·.1) → look (inD ws) n = some (.int (getW ws n))
  | [], n, h => by simp at h
  | (k, s) :: r, n, h => by
    have e : inD ((k, s) :: r) = (k, .int s) :: inD r := rfl
    rw [e, look_cons]
    by_cases hk : k = n
    · rw [if_pos hk]; simp [getW, hk]
    · rw [if_neg hk, inD_look (by simpa [Ne.symm hk] using h)]
      simp [getW, hk]
theorem getW_self {ws : List (Int × Int)} (hn : (ws.map (·.1)).Nodup) : ∀ p ∈ ws, getW ws p.1 = p.2 := by
  induction ws with
  | nil => intro p hp; simp at hp
  | cons q r ih =>
    intro p hp
    simp only [List.map_cons, List.nodup_cons] at hn
    rcases List.mem_cons.mp hp with rfl | hp
    · simp [getW]
    · have hne : q.1 ≠ p.1 := fun e => hn.1 (e ▸ List.mem_map.mpr ⟨p, hp, rfl⟩)
      have := ih hn.2 p hp
      simp only [getW, List.find?_cons, hne, decide_false]
      exact this
theorem atL_wants {ws : List (Int × Int)} (hn : (ws.map (·.1)).Nodup) (k : Int) : ((ws.map (·.1)).filter fun n => decide (k ≤ getW ws n)).length = atL (ws.map (·.2)) k := by
  unfold atL
  rw [List.filter_map, List.filter_map, List.length_map, List.length_map]
  congr 1
  refine List.filter_congr fun p hp => ?_
  simp only [Function.comp]
  rw [getW_self hn p hp]
theorem find_range_some {n j : Nat} {p : Nat → Bool} (h : ∀ k, k < j → p k = false) (hj : p j = true) (hlt : j < n) : (List.range n).find? p = some j := by
  rw [List.find?_range_eq_some]
  exact ⟨hj, by simpa using hlt, fun k hk => by simpa using h k hk⟩
theorem find_range_none {n : Nat} {p : Nat → Bool} (h : ∀ k, k < n → p k = false) : (List.range n).find? p = none := by
  rw [List.find?_eq_none]
  intro k hk
  simpa using h k (by simpa using hk)
theorem closed_inD (n : Nat) : ∀ ws, closedK n (inD ws) = true
  | [] => rfl
  | p :: r => by
    show closedK n ((p.1, .int p.2) :: inD r) = true
    simp [closedK, AV.closed, closed_inD n r]
theorem look_self' {kvs : List (Int × AV)} (hn : (kvs.map (·.1)).Nodup) : ∀ p ∈ kvs, look kvs p.1 = some p.2 := look_self hn
theorem dictEq_self {f : AV → AV → Option Bool} {kvs : List (Int × AV)} (hn : (kvs.map (·.1)).Nodup) (hf : ∀ p ∈ kvs, f p.2 p.2 = some true) : dictEq f kvs kvs = some true := by
  have key : ∀ l : List (Int × AV), (∀ p ∈ l, p ∈ kvs) → dictEq f kvs l = some true := by
    intro l
    induction l with
    | nil => intro _; rfl
    | cons p r ih =>
      intro h
      obtain ⟨k, v⟩ := p
      have e := look_self' hn (k, v) (h _ (.head _))
      simp only [dictEq, e, hf _ (h _ (.head _)), ih fun q hq => h q (.tail _ hq), Option.bind_some, Option.map_some, Bool.and_self]
  exact key kvs fun _ h => h
theorem aEq_dict {n : Nat} {σ : Store} {i j : Nat} {kvs : List (Int × AV)} (h1 : σ[i]? = some (.dict kvs)) (h2 : σ[j]? = some (.dict kvs)) (hn : (kvs.map (·.1)).Nodup) (hf : ∀ p ∈ kvs, aEq n σ p.2 p.2 = some true) : aEq (n + 1) σ (.ref i) (.ref j) = some true := by
  unfold aEq
  simp only [h1, h2, if_true]
  exact dictEq_self hn hf
theorem aEq_list {n : Nat} {σ : Store} {i j : Nat} {ns : List Int} (h1 : σ[i]? = some (.list (ns.map .int))) (h2 : σ[j]? = some (.list (ns.map .int))) : aEq (n + 2) σ (.ref i) (.ref j) = some true := by
  unfold aEq
  simp only [h1, h2, if_true]
  rw [pairs_ints ns ns rfl]; simp
theorem aEq_inD {n : Nat} {σ : Store} {i j : Nat} {ws : List (Int × Int)} (h1 : σ[i]? = some (.dict (inD ws))) (h2 : σ[j]? = some (.dict (inD ws))) (hn : (ws.map (·.1)).Nodup) : aEq (n + 2) σ (.ref i) (.ref j) = some true := by
  refine aEq_dict h1 h2 (by rw [inD_keys]; exact hn) fun p hp => ?_
  simp only [inD, List.mem_map] at hp
  obtain ⟨q, _, rfl⟩ := hp
  simp [aEq]
theorem wC_ne_of {a b : AV} {σ : Store} {v : Bool} {Q} (h : aEq 6 σ a b = some v) : wC cNe a b σ Q ↔ Q (!v) := by
  constructor
  · rintro ⟨v', e1, q⟩; simp only [cNe, h, Option.map_some, Option.some.injEq] at e1; subst e1; exact q
  · intro q; exact ⟨_, by simp only [cNe, h, Option.map_some], q⟩
end Inn
end
section
set_option maxRecDepth 10000
set_option linter.unusedVariables false
set_option linter.unusedSimpArgs false
namespace Inn
open PySem PySem.W
theorem expT2 {σ σ' : Store} {i j : Nat} {a b : AO} (hi : σ.length ≤ i) (hj : σ.length ≤ j) (hij : i ≠ j) (ea : σ'[i]? = some a) (eb : σ'[j]? = some b) (ca : a.closed σ.length = true) (cb : b.closed σ.length = true) :
    exportT σ (.tup [.ref i, .ref j]) σ' = some (.tup [.ref σ.length, .ref (σ.length + 1)], σ ++ [a, b]) := by
  simp only [exportT, refsOf, objsAt, ea, eb, Option.bind_some, Option.map_some]
  rw [if_pos]
  · rfl
  · refine ⟨by simp [hij], ?_, ?_⟩
    · intro x hx; simp at hx; rcases hx with rfl | rfl <;> assumption
    · intro x hx; simp at hx; rcases hx with rfl | rfl <;> assumption
theorem expT4 {σ σ' : Store} {i j k l : Nat} {a b c d : AO} (hi : σ.length ≤ i) (hij : i < j) (hjk : j < k) (hkl : k < l) (ea : σ'[i]? = some a) (eb : σ'[j]? = some b) (ec : σ'[k]? = some c) (ed : σ'[l]? = some d)
    (ca : a.closed σ.length = true) (cb : b.closed σ.length = true) (cc : c.closed σ.length = true) (cd : d.closed σ.length = true) :
    exportT σ (.tup [.ref i, .ref j, .ref k, .ref l]) σ' = some (.tup [.ref σ.length, .ref (σ.length + 1), .ref (σ.length + 2), .ref (σ.length + 3)], σ ++ [a, b, c, d]) := by
  simp only [exportT, refsOf, objsAt, ea, eb, ec, ed, Option.bind_some, Option.map_some]
  rw [if_pos]
  · rfl
  · refine ⟨by simp; exact ⟨⟨Nat.ne_of_lt hij, Nat.ne_of_lt (Nat.lt_trans hij hjk), Nat.ne_of_lt (Nat.lt_trans hij (Nat.lt_trans hjk hkl))⟩, ⟨Nat.ne_of_lt hjk, Nat.ne_of_lt (Nat.lt_trans hjk hkl)⟩, Nat.ne_of_lt hkl⟩, ?_, ?_⟩
    · intro x hx; simp at hx; exact ar_298 hx hij hjk hkl hi
    · intro x hx; simp at hx; rcases hx with rfl | rfl | rfl | rfl <;> assumption
theorem wF_int {b : Bool} {σ Q} : wF bInt [.bool b] σ Q ↔ Q (.int (if b then 1 else 0)) σ := wF_eq rfl
theorem w2_quad {a b c d : AV} {k : Int} {v : AV} {σ Q} (h0 : 0 ≤ k ∧ k < 4) (h : [a, b, c, d][k.toNat]? = some v) : w2 getI (.tup [a, b, c, d]) (.int k) σ Q ↔ Q v σ := w2_tup (by exact ar_299 h0) h
theorem put_inD {W : List (Int × Int)} (n v : Int) (hn : (W.map (·.1)).Nodup) : ∃ W', put (inD W) n (.int v) = inD W' ∧ (W'.map (·.1)).Nodup ∧ W'.length ≤ W.length + 1 ∧ ∀ p ∈ W', p ∈ W ∨ p.2 = v := by
  have hk : ((put (inD W) n (.int v)).map (·.1)).Nodup := put_keys (by rw [inD_keys]; exact hn)
  have key : ∃ W', put (inD W) n (.int v) = inD W' ∧ W'.length ≤ W.length + 1 ∧ ∀ p ∈ W', p ∈ W ∨ p.2 = v := by
    unfold put
    split
    · refine ⟨W.map fun p => if p.1 = n then (p.1, v) else p, ?_, by simp, fun p hp => ?_⟩
      · simp only [inD, List.map_map]
        refine List.map_congr_left fun p _ => ?_
        simp only [Function.comp]
        split <;> rfl
      · obtain ⟨q, hq, rfl⟩ := List.mem_map.mp hp
        by_cases h : q.1 = n
        · rw [if_pos h]; exact .inr rfl
        · rw [if_neg h]; exact .inl hq
    · refine ⟨W ++ [(n, v)], by simp [inD], by simp, fun p hp => ?_⟩
      rcases List.mem_append.mp hp with hp | hp
      · exact .inl hp
      · simp at hp; subst hp; exact .inr rfl
  obtain ⟨W', e, h1, h2⟩ := key
  rw [e, inD_keys] at hk
  exact ⟨W', e, hk, h1, h2⟩
theorem aEq_trio {n : Nat} {σ : Store} {a b c x y z : AV} (e1 : aEq n σ a x = some true) (e2 : aEq n σ b y = some true) (e3 : aEq n σ c z = some true) : aEq (n + 1) σ (.tup [a, b, c]) (.tup [x, y, z]) = some true := by
  unfold aEq
  simp only [pairsEq, e1, e2, e3, Option.bind_some, Option.map_some, Bool.and_self, List.length_cons, List.length_nil, BEq.rfl]
theorem set_get {σ : Store} {i : Nat} {o o' : AO} (h : σ[i]? = some o') : (σ.set i o)[i]? = some o := by
  have := (List.getElem?_eq_some_iff.mp h).1
  simp [this]
theorem closed_intL (n : Nat) (l : List Int) : (AO.list (l.map .int)).closed n = true := by simp [AO.closed, closedL_ints]
theorem closed_intD (n : Nat) (W : List (Int × Int)) : (AO.dict (inD W)).closed n = true := by simp [AO.closed, closed_inD]
end Inn
end
section
set_option maxRecDepth 10000
set_option linter.unusedVariables false
set_option linter.unusedSimpArgs false
namespace Inn
open PySem PySem.W
noncomputable def cellM (ns : List Int) (k : Int) : Int := if ns = [] then k * 7919 else (k * 7919 + k.fdiv ns.length * 104729 + ns.getD (k.fmod ns.length).toNat 0 * 48271).fmod 1000003
noncomputable def cellV (ns : List Int) (k : Int) : Int := ((cellM ns k * cellM ns k).fdiv 11 + 13 * cellM ns k).fmod 1000003
theorem cellV_nonneg (ns : List Int) (k : Int) : 0 ≤ cellV ns k := by
  unfold cellV; rw [Int.fmod_eq_emod_of_nonneg _ (by decide)]; exact ar_300
theorem fmod_lt (a : Int) {b : Int} (h : 0 < b) : 0 ≤ a.fmod b ∧ a.fmod b < b := by
  rw [Int.fmod_eq_emod_of_nonneg _ (by exact ar_301 h)]
  exact ⟨Int.emod_nonneg _ (by exact ar_302 h), Int.emod_lt_of_pos _ h⟩
theorem cell_eq {σ : Store} {i : Nat} {ns : List Int} {k : Int} (h : σ[i]? = some (.list (ns.map .int))) (h0 : 0 ≤ k) (h1 : k < 1000000) (hl : ns.length ≤ 1000) : sp_law_cell [.ref i, .int k] σ = some (.int (cellV ns k), σ) := by
  refine wF_get (wF_fn rfl ?_)
  have hd := app_get (τ := [.list []]) h
  have hd2 : (σ ++ [AO.list []])[σ.length]? = some (.list (([] : List Int).map .int)) := new_get
  simp only [List.zip_cons_cons, List.zip_nil_right, List.zip_nil_left, bindE, wS_seq_e, wS_assign_e, wS_if_e, wS_nil_e, wS_ret_e, thenS, wA_bin_e, wA_int_e, wA_bool_e, wA_none_e, wA_cmp_e, wA_bcmp_e, wA_bval_e, wA_bnot_e, wA_not_e, wA_neg_e, wA_band_nil_e, wA_band_cons_e, wA_bor_nil_e, wA_bor_cons_e, wA_vand1_e, wA_vand_e, wA_here_e, wA_there_e, str_eq_iff_e, String.reduceEq, not_false_eq_true, wA_list_e, wA_tup_e, wA_args_nil_e, wA_args_cons_e, wA_call_e, wA_sub_e, wA_isi_e, w2_add_e, w2_sub_e, w2_mod_e, w2_div_e, w2_mul_e, w2_pow_e, wC_lt_e, wC_gt_e, wC_ge_e, wC_eqi_e, wC_eqb_e, List.length_nil, List.length_cons, List.length_map, exp_int, exp_bool, exp_none, aTruth, Option.some.injEq, exL_e, wC_neL hd hd2, wF_len hd]
  refine ⟨.inr (by decide), by exact ar_303, ?_⟩
  by_cases hn : ns = []
  · subst hn
    have hc : cellM [] k = k * 7919 := rfl
    have hs : smallI (k * 7919) := by unfold smallI; omega
    simp only [BEq.rfl, Bool.not_true, Bool.false_eq_true, if_false]
    exact ⟨.inl hs, by decide, .inl (by decide), by decide, ⟨_, rfl⟩, _, _, rfl, by rw [cellV, hc], rfl⟩
  · have hb : (!(ns == [])) = true := by simp [hn]
    have hpos : 0 < ns.length := by cases ns with | nil => exact absurd rfl hn | cons _ _ => simp
    have hm := fmod_lt k (b := ns.length) (by exact ar_305 hpos)
    have hit : (ns.map AV.int)[(k.fmod ns.length).toNat]? = some (.int (ns.getD (k.fmod ns.length).toNat 0)) := by
      have : (k.fmod ns.length).toNat < ns.length := by exact ar_306 hm
      simp [this]
    simp only [List.zip_cons_cons, List.zip_nil_right, List.zip_nil_left, bindE, wS_seq_e, wS_assign_e, wS_if_e, wS_nil_e, wS_ret_e, thenS, wA_bin_e, wA_int_e, wA_bool_e, wA_none_e, wA_cmp_e, wA_bcmp_e, wA_bval_e, wA_bnot_e, wA_not_e, wA_neg_e, wA_band_nil_e, wA_band_cons_e, wA_bor_nil_e, wA_bor_cons_e, wA_vand1_e, wA_vand_e, wA_here_e, wA_there_e, str_eq_iff_e, String.reduceEq, not_false_eq_true, wA_list_e, wA_tup_e, wA_args_nil_e, wA_args_cons_e, wA_call_e, wA_sub_e, wA_isi_e, w2_add_e, w2_sub_e, w2_mod_e, w2_div_e, w2_mul_e, w2_pow_e, wC_lt_e, wC_gt_e, wC_ge_e, wC_eqi_e, wC_eqb_e, List.length_nil, List.length_cons, List.length_map, exp_int, exp_bool, exp_none, aTruth, Option.some.injEq, exL_e, hb, if_true, w2_item hd hm.1 hit]
    have hc : cellM ns k = (k * 7919 + k.fdiv ns.length * 104729 + ns.getD (k.fmod ns.length).toNat 0 * 48271).fmod 1000003 := by simp [cellM, hn]
    have hr := fmod_lt (k * 7919 + k.fdiv ns.length * 104729 + ns.getD (k.fmod ns.length).toNat 0 * 48271) (b := 1000003) (by decide)
    rw [← hc] at hr ⊢
    have hs : smallI (cellM ns k) := by unfold smallI; omega
    exact ⟨by exact ar_308 hpos hl, .inr (by decide), by exact Int.natCast_ne_zero_iff_pos.mpr hpos, .inr (by decide), by decide, .inl hs, by decide, .inl (by decide), by decide, ⟨_, rfl⟩, _, _, rfl, by rw [cellV], rfl⟩
theorem wF_cell {σ : Store} {i : Nat} {ns : List Int} {k : Int} {Q} (h : σ[i]? = some (.list (ns.map .int))) (h0 : 0 ≤ k) (h1 : k < 1000000) (hl : ns.length ≤ 1000) : wF sp_law_cell [.ref i, .int k] σ Q ↔ Q (.int (cellV ns k)) σ := wF_eq (cell_eq h h0 h1 hl)
theorem whole_eq {σ : Store} {i : Int} : sp_law_whole [.int i] σ = some (.bool true, σ) := by
  refine wF_get (wF_fn rfl ?_)
  simp only [List.zip_cons_cons, List.zip_nil_right, List.zip_nil_left, bindE, wS_seq_e, wS_assign_e, wS_if_e, wS_nil_e, wS_ret_e, thenS, wA_bin_e, wA_int_e, wA_bool_e, wA_none_e, wA_cmp_e, wA_bcmp_e, wA_bval_e, wA_bnot_e, wA_not_e, wA_neg_e, wA_band_nil_e, wA_band_cons_e, wA_bor_nil_e, wA_bor_cons_e, wA_vand1_e, wA_vand_e, wA_here_e, wA_there_e, str_eq_iff_e, String.reduceEq, not_false_eq_true, wA_list_e, wA_tup_e, wA_args_nil_e, wA_args_cons_e, wA_call_e, wA_sub_e, wA_isi_e, w2_add_e, w2_sub_e, w2_mod_e, w2_div_e, w2_mul_e, w2_pow_e, wC_lt_e, wC_gt_e, wC_ge_e, wC_eqi_e, wC_eqb_e, List.length_nil, List.length_cons, List.length_map, exp_int, exp_bool, exp_none, aTruth, Option.some.injEq, exL_e, isi, if_true, String.reduceEq, if_false, Bool.not_false]
  exact ⟨⟨[], by simp⟩, _, _, rfl, rfl, rfl⟩
theorem wF_whole {σ : Store} {i : Int} {Q} : wF sp_law_whole [.int i] σ Q ↔ Q (.bool true) σ := wF_eq whole_eq
theorem house_ok {σ : Store} {i : Nat} {sc : List Int} (h : σ[i]? = some (.list (sc.map .int))) (hl : sc.length ≤ 1000) :
    wF sp_law_house_by [.ref i] σ fun v s => ∃ ns : List Int, houseV ns = true ∧ v = .ref σ.length ∧ s = σ ++ [.list (ns.map .int)] := by
  have cell : ∀ {σ' : Store} {k : Int} {Q}, Ext σ σ' → 0 ≤ k → k < 1000000 → (wF sp_law_cell [.ref i, .int k] σ' Q ↔ Q (.int (cellV sc k)) σ') := fun hτ h0 h1 => wF_cell (hτ.get h) h0 h1 hl
  refine wF_fn rfl ?_
  have hr := fmod_lt (cellV sc 1) (b := 4) (by decide)
  have hk : ∃ q : Int, (0 ≤ q ∧ q ≤ 9) ∧ ([.int 4, .int 3, .int 4, .int 9] : List AV)[((cellV sc 1).fmod 4).toNat]? = some (.int q) := by
    generalize (cellV sc 1).fmod 4 = z at hr
    have : z = 0 ∨ z = 1 ∨ z = 2 ∨ z = 3 := by exact ar_310 hr
    rcases this with rfl | rfl | rfl | rfl
    · exact ⟨4, by decide, rfl⟩
    · exact ⟨3, by decide, rfl⟩
    · exact ⟨4, by decide, rfl⟩
    · exact ⟨9, by decide, rfl⟩
  obtain ⟨q, hq0, hq⟩ := hk
  have hr1 := fmod_lt (cellV sc 0) (b := 6) (by decide)
  simp (maxDischargeDepth := 9) only [List.zip_cons_cons, List.zip_nil_right, List.zip_nil_left, bindE, wS_seq_e, wS_assign_e, wS_if_e, wS_nil_e, wS_ret_e, thenS, wA_bin_e, wA_int_e, wA_bool_e, wA_none_e, wA_cmp_e, wA_bcmp_e, wA_bval_e, wA_bnot_e, wA_not_e, wA_neg_e, wA_band_nil_e, wA_band_cons_e, wA_bor_nil_e, wA_bor_cons_e, wA_vand1_e, wA_vand_e, wA_here_e, wA_there_e, str_eq_iff_e, String.reduceEq, not_false_eq_true, wA_list_e, wA_tup_e, wA_args_nil_e, wA_args_cons_e, wA_call_e, wA_sub_e, wA_isi_e, w2_add_e, w2_sub_e, w2_mod_e, w2_div_e, w2_mul_e, w2_pow_e, wC_lt_e, wC_gt_e, wC_ge_e, wC_eqi_e, wC_eqb_e, List.length_nil, List.length_cons, List.length_map, exp_int, exp_bool, exp_none, aTruth, Option.some.injEq, exL_e, Int.reduceLE, Int.reduceLT, Int.reduceEq, Int.reduceNe, ne_eq, and_true, true_and, Nat.reduceLeDiff, Nat.reduceAdd, Int.reduceNeg, Nat.reduceLT, and_self, nzl_e, cell, ext_refl_e, ext_app_e]
  rw [w2_item new_get hr.1 hq]
  refine wA_compM (fun k => .int ((cellV sc (10 + k)).fmod (q + 1))) ?_
  simp (maxDischargeDepth := 9) only [List.zip_cons_cons, List.zip_nil_right, List.zip_nil_left, bindE, wS_seq_e, wS_assign_e, wS_if_e, wS_nil_e, wS_ret_e, thenS, wA_bin_e, wA_int_e, wA_bool_e, wA_none_e, wA_cmp_e, wA_bcmp_e, wA_bval_e, wA_bnot_e, wA_not_e, wA_neg_e, wA_band_nil_e, wA_band_cons_e, wA_bor_nil_e, wA_bor_cons_e, wA_vand1_e, wA_vand_e, wA_here_e, wA_there_e, str_eq_iff_e, String.reduceEq, not_false_eq_true, wA_list_e, wA_tup_e, wA_args_nil_e, wA_args_cons_e, wA_call_e, wA_sub_e, wA_isi_e, w2_add_e, w2_sub_e, w2_mod_e, w2_div_e, w2_mul_e, w2_pow_e, wC_lt_e, wC_gt_e, wC_ge_e, wC_eqi_e, wC_eqb_e, List.length_nil, List.length_cons, List.length_map, exp_int, exp_bool, exp_none, aTruth, Option.some.injEq, exL_e, Int.reduceLE, Int.reduceLT, Int.reduceEq, Int.reduceNe, ne_eq, and_true, true_and, Nat.reduceLeDiff, Nat.reduceAdd, Int.reduceNeg, Nat.reduceLT, and_self, nzl_e, cell, ext_refl_e, ext_app_e, wF_range1_e]
  refine ⟨rgI 0 (1 + (cellV sc 0).fmod 6), items_rng (by exact ar_311 hr1), fun n hn => ?_, ⟨[_, _], by simp; exact ⟨rfl, rfl⟩⟩, _, _, exp_new (by simp) new_get ?_, (rgI 0 (1 + (cellV sc 0).fmod 6)).map fun k => (cellV sc (10 + k)).fmod (q + 1), ?_, rfl, by simp⟩
  · have hn' := rgI_mem hn
    simp only [List.zip_cons_cons, List.zip_nil_right, List.zip_nil_left, bindE, wS_seq_e, wS_assign_e, wS_if_e, wS_nil_e, wS_ret_e, thenS, wA_bin_e, wA_int_e, wA_bool_e, wA_none_e, wA_cmp_e, wA_bcmp_e, wA_bval_e, wA_bnot_e, wA_not_e, wA_neg_e, wA_band_nil_e, wA_band_cons_e, wA_bor_nil_e, wA_bor_cons_e, wA_vand1_e, wA_vand_e, wA_here_e, wA_there_e, str_eq_iff_e, String.reduceEq, not_false_eq_true, wA_list_e, wA_tup_e, wA_args_nil_e, wA_args_cons_e, wA_call_e, wA_sub_e, wA_isi_e, w2_add_e, w2_sub_e, w2_mod_e, w2_div_e, w2_mul_e, w2_pow_e, wC_lt_e, wC_gt_e, wC_ge_e, wC_eqi_e, wC_eqb_e, List.length_nil, List.length_cons, List.length_map, exp_int, exp_bool, exp_none, aTruth, Option.some.injEq, exL_e, Int.reduceLE, Int.reduceLT, Int.reduceEq, Int.reduceNe, ne_eq, and_true, true_and, Nat.reduceLeDiff, Nat.reduceAdd, Int.reduceNeg, Nat.reduceLT, and_self, nzl_e, cell (ext_app ext_refl) (k := 10 + n) (by exact ar_312 hn') (by exact ar_313 hn' hr1), AV.closed]
    exact ar_314 hq0
  · have : (rgI 0 (1 + (cellV sc 0).fmod 6)).map (fun k => AV.int ((cellV sc (10 + k)).fmod (q + 1))) = ((rgI 0 (1 + (cellV sc 0).fmod 6)).map fun k => (cellV sc (10 + k)).fmod (q + 1)).map .int := by simp
    rw [AO.closed, this]; exact closedL_ints _ _
  · rw [house_iff]
    refine ⟨by simp [rgI_length]; exact ar_315 hr1, fun n hn => ?_⟩
    obtain ⟨k, _, rfl⟩ := List.mem_map.mp hn
    have := fmod_lt (cellV sc (10 + k)) (b := q + 1) (by exact ar_316 hq0)
    exact ar_317 this hq0
theorem kinds_eq {σ : Store} {i : Nat} {ns : List Int} (h : σ[i]? = some (.list (ns.map .int))) (hg : houseV ns = true) : sp_law_kinds [.ref i] σ = some (.ref σ.length, σ ++ [.list ((kindsO ns 0).map .int)]) := by
  obtain ⟨⟨g1, g2⟩, g3⟩ := house_iff.1 hg
  have hn : ∀ n ∈ ns, 0 ≤ n := fun n hn => (g3 n hn).1
  have hsum := sum_le g3
  have hklen := kindsO_len ns 0 hn
  refine wF_get (wF_fn rfl ?_)
  refine wS_seq.2 ?_
  simp only [wS_assign_e, wA_list_e, wA_args_nil_e, thenS, List.length_nil, List.zip_cons_cons, List.zip_nil_right, bindE]
  refine ⟨by exact ar_303, ?_⟩
  refine wS_cut (fun ρ' σ' => Ext σ σ' ∧ ∃ j, ρ' "_law_kinds_here" = some (.ref j) ∧ σ.length ≤ j ∧ σ'[j]? = some (.list ((kindsO ns 0).map .int))) ?_ ?_
  · refine wS_forN ns.length (by exact ar_318 g2) (fun k ρ' σ' => Ext σ σ' ∧ ρ' "_law_counts" = some (.ref i) ∧ ∃ j, ρ' "_law_kinds_here" = some (.ref j) ∧ σ.length ≤ j ∧ σ'[j]? = some (.list ((kindsO (ns.take k) 0).map .int))) ?_ ?_ ?_
    · have h1 := app_get (τ := [.list []]) h
      simp (maxDischargeDepth := 9) only [List.zip_cons_cons, List.zip_nil_right, List.zip_nil_left, bindE, wS_seq_e, wS_assign_e, wS_if_e, wS_nil_e, wS_ret_e, thenS, wA_bin_e, wA_int_e, wA_bool_e, wA_none_e, wA_cmp_e, wA_bcmp_e, wA_bval_e, wA_bnot_e, wA_not_e, wA_neg_e, wA_band_nil_e, wA_band_cons_e, wA_bor_nil_e, wA_bor_cons_e, wA_vand1_e, wA_vand_e, wA_here_e, wA_there_e, str_eq_iff_e, String.reduceEq, not_false_eq_true, wA_list_e, wA_tup_e, wA_args_nil_e, wA_args_cons_e, wA_call_e, wA_sub_e, wA_isi_e, w2_add_e, w2_sub_e, w2_mod_e, w2_div_e, w2_mul_e, w2_pow_e, wC_lt_e, wC_gt_e, wC_ge_e, wC_eqi_e, wC_eqb_e, List.length_nil, List.length_cons, List.length_map, exp_int, exp_bool, exp_none, aTruth, Option.some.injEq, exL_e, Int.reduceLE, Int.reduceLT, Int.reduceEq, Int.reduceNe, ne_eq, and_true, true_and, Nat.reduceLeDiff, Nat.reduceAdd, Int.reduceNeg, Nat.reduceLT, and_self, nzl_e, wF_len h1, wF_range1_e]
      exact ⟨ext_self, by (first | ((repeat (first | exact upd_same | refine (upd_ne rfl).trans ?_)); done) | simp [upd, str_eq_iff]), σ.length, upd_same, Nat.le_refl _, by rw [new_get]; rfl⟩
    · rintro k ρ' σ' hk ⟨hx, e1, j, e2, hj, e3⟩
      have hk' : ns[k]? = some ns[k] := by simp [hk]
      have hit : (ns.map AV.int)[(k : Int).toNat]? = some (.int ns[k]) := by simp [hk]
      have hb := g3 ns[k] (by simp)
      have hke := kindsO_len (ns.take k) 0 fun n hh => hn n (List.mem_of_mem_take hh)
      have hke2 := first_le hn hk'
      unfold firstV at hke2
      have h1 := app_get (τ := [.list [.int k]]) (hx.get h)
      simp (maxDischargeDepth := 9) only [List.zip_cons_cons, List.zip_nil_right, List.zip_nil_left, bindE, wS_seq_e, wS_assign_e, wS_if_e, wS_nil_e, wS_ret_e, thenS, wA_bin_e, wA_int_e, wA_bool_e, wA_none_e, wA_cmp_e, wA_bcmp_e, wA_bval_e, wA_bnot_e, wA_not_e, wA_neg_e, wA_band_nil_e, wA_band_cons_e, wA_bor_nil_e, wA_bor_cons_e, wA_vand1_e, wA_vand_e, wA_here_e, wA_there_e, str_eq_iff_e, String.reduceEq, not_false_eq_true, wA_list_e, wA_tup_e, wA_args_nil_e, wA_args_cons_e, wA_call_e, wA_sub_e, wA_isi_e, w2_add_e, w2_sub_e, w2_mod_e, w2_div_e, w2_mul_e, w2_pow_e, wC_lt_e, wC_gt_e, wC_ge_e, wC_eqi_e, wC_eqb_e, List.length_nil, List.length_cons, List.length_map, exp_int, exp_bool, exp_none, aTruth, Option.some.injEq, exL_e, Int.reduceLE, Int.reduceLT, Int.reduceEq, Int.reduceNe, ne_eq, and_true, true_and, Nat.reduceLeDiff, Nat.reduceAdd, Int.reduceNeg, Nat.reduceLT, and_self, nzl_e, wA_name e1, wA_name e2, w2_item h1 (Int.natCast_nonneg _) hit]
      rw [w2_mulL new_get (by simp; exact ar_319 hb)]
      rw [w2_addL (app_get (app_get e3)) new_get (by simp; exact ar_320 hke2 hsum hke g2)]
      refine ⟨ext_app (ext_app (ext_app hx)), by (first | ((repeat (first | exact e1 | refine (upd_ne rfl).trans ?_)); done) | simpa [upd, str_eq_iff] using e1), _, upd_same, ?_, ?_⟩
      · have := hx.len; simp; exact Nat.le_add_right_of_le this
      rw [new_get, List.take_add_one, hk']
      simp only [Option.toList_some, kindsO_snoc]
      have hkl2 : (ns.take k).length = k := by simp; exact ar_219 hk
      rw [hkl2]
      have e6 : (List.replicate ns[k].toNat [AV.int (k : Int)]).flatten = (List.replicate ns[k].toNat ((0 + k : Nat) : Int)).map .int := by
        generalize ns[k].toNat = m
        rw [Nat.zero_add]
        induction m with
        | zero => rfl
        | succ m ih => rw [List.replicate_succ, List.flatten_cons, ih, List.replicate_succ, List.map_cons]; rfl
      rw [e6, List.map_append]
    · rintro ρ' σ' ⟨hx, _, j, e2, hj, e3⟩
      rw [List.take_length] at e3
      exact ⟨rfl, hx, j, e2, hj, e3⟩
  · rintro ρ' σ' ⟨hx, j, e2, hj, e3⟩
    simp (maxDischargeDepth := 9) only [List.zip_cons_cons, List.zip_nil_right, List.zip_nil_left, bindE, wS_seq_e, wS_assign_e, wS_if_e, wS_nil_e, wS_ret_e, thenS, wA_bin_e, wA_int_e, wA_bool_e, wA_none_e, wA_cmp_e, wA_bcmp_e, wA_bval_e, wA_bnot_e, wA_not_e, wA_neg_e, wA_band_nil_e, wA_band_cons_e, wA_bor_nil_e, wA_bor_cons_e, wA_vand1_e, wA_vand_e, wA_here_e, wA_there_e, str_eq_iff_e, String.reduceEq, not_false_eq_true, wA_list_e, wA_tup_e, wA_args_nil_e, wA_args_cons_e, wA_call_e, wA_sub_e, wA_isi_e, w2_add_e, w2_sub_e, w2_mod_e, w2_div_e, w2_mul_e, w2_pow_e, wC_lt_e, wC_gt_e, wC_ge_e, wC_eqi_e, wC_eqb_e, List.length_nil, List.length_cons, List.length_map, exp_int, exp_bool, exp_none, aTruth, Option.some.injEq, exL_e, Int.reduceLE, Int.reduceLT, Int.reduceEq, Int.reduceNe, ne_eq, and_true, true_and, Nat.reduceLeDiff, Nat.reduceAdd, Int.reduceNeg, Nat.reduceLT, and_self, nzl_e, wA_name e2]
    exact ⟨hx, _, _, exp_new hj e3 (by simp [AO.closed, closedL_ints]), rfl, rfl⟩
theorem wF_kinds {σ : Store} {i : Nat} {ns : List Int} {Q} (h : σ[i]? = some (.list (ns.map .int))) (hg : houseV ns = true) : wF sp_law_kinds [.ref i] σ Q ↔ Q (.ref σ.length) (σ ++ [.list ((kindsO ns 0).map .int)]) := wF_eq (kinds_eq h hg)
structure KdJ (σ : Store) (i : Nat) (ns : List Int) (r : Int) (n : Nat) (ρ : AEnv) (σ' : Store) (pre rest : List Int) (r' : Int) : Prop where
  f0 : σ' = σ
  f1 : ns = pre ++ rest
  f2 : n = rest.length
  f3 : ρ "counts" = some (.ref i)
  f4 : ρ "room" = some (.int r')
  f5 : ρ "kind" = some (.int (pre.length : Int))
  f6 : 0 ≤ r'
  f7 : r' < rest.sum
  f8 : kindV ns r = pre.length + kindV rest r'
theorem kind_eq {σ : Store} {i : Nat} {ns : List Int} {r : Int} (h : σ[i]? = some (.list (ns.map .int))) (hr : 0 ≤ r) (hs : r < ns.sum) (hl : ns.length < 1000) : sp_kind_of [.ref i, .int r] σ = some (.int (kindV ns r), σ) := by
  refine wF_get (wF_fn rfl ?_)
  simp only [List.zip_cons_cons, List.zip_nil_right, List.zip_nil_left, bindE, wS_seq_e, wS_assign_e, wS_if_e, wS_nil_e, wS_ret_e, thenS, wA_bin_e, wA_int_e, wA_bool_e, wA_none_e, wA_cmp_e, wA_bcmp_e, wA_bval_e, wA_bnot_e, wA_not_e, wA_neg_e, wA_band_nil_e, wA_band_cons_e, wA_bor_nil_e, wA_bor_cons_e, wA_vand1_e, wA_vand_e, wA_here_e, wA_there_e, str_eq_iff_e, String.reduceEq, not_false_eq_true, wA_list_e, wA_tup_e, wA_args_nil_e, wA_args_cons_e, wA_call_e, wA_sub_e, wA_isi_e, w2_add_e, w2_sub_e, w2_mod_e, w2_div_e, w2_mul_e, w2_pow_e, wC_lt_e, wC_gt_e, wC_ge_e, wC_eqi_e, wC_eqb_e, List.length_nil, List.length_cons, List.length_map, exp_int, exp_bool, exp_none, aTruth, Option.some.injEq, exL_e]
  refine wS_while (fun n ρ σ' => ∃ pre rest r', KdJ σ i ns r n ρ σ' pre rest r') ?_ ns.length hl _ _ ?_
  · rintro n ρ σ' ⟨pre, rest, r', rfl, e1, e2, e3, e4, e5, e6, e7, e8⟩
    cases rest with
    | nil => simp at e7; omega
    | cons a rest =>
      have hit : (ns.map AV.int)[(pre.length : Int).toNat]? = some (.int a) := by rw [e1]; simp
      simp only [List.zip_cons_cons, List.zip_nil_right, List.zip_nil_left, bindE, wS_seq_e, wS_assign_e, wS_if_e, wS_nil_e, wS_ret_e, thenS, wA_bin_e, wA_int_e, wA_bool_e, wA_none_e, wA_cmp_e, wA_bcmp_e, wA_bval_e, wA_bnot_e, wA_not_e, wA_neg_e, wA_band_nil_e, wA_band_cons_e, wA_bor_nil_e, wA_bor_cons_e, wA_vand1_e, wA_vand_e, wA_here_e, wA_there_e, str_eq_iff_e, String.reduceEq, not_false_eq_true, wA_list_e, wA_tup_e, wA_args_nil_e, wA_args_cons_e, wA_call_e, wA_sub_e, wA_isi_e, w2_add_e, w2_sub_e, w2_mod_e, w2_div_e, w2_mul_e, w2_pow_e, wC_lt_e, wC_gt_e, wC_ge_e, wC_eqi_e, wC_eqb_e, List.length_nil, List.length_cons, List.length_map, exp_int, exp_bool, exp_none, aTruth, Option.some.injEq, exL_e, wA_name e3, wA_name e4, wA_name e5, w2_item h (Int.natCast_nonneg _) hit]
      by_cases ha : a ≤ r'
      · simp only [decide_eq_true ha, if_true]
        refine ⟨rest.length, by simp [e2], ?_⟩
        have f1 : (upd ρ "room" (.int (r' - a))) "kind" = some (.int (pre.length : Int)) := by (first | ((repeat (first | exact e5 | refine (upd_ne rfl).trans ?_)); done) | simpa [upd, str_eq_iff] using e5)
        refine ⟨pre ++ [a], rest, r' - a, rfl, by simp [e1], rfl, by (first | ((repeat (first | exact e3 | refine (upd_ne rfl).trans ?_)); done) | simpa [upd, str_eq_iff] using e3), by (first | ((repeat (first | exact upd_same | refine (upd_ne rfl).trans ?_)); done) | simp [upd, str_eq_iff]), by simp [upd], by exact Int.sub_nonneg_of_le ha, by simp at e7; exact Int.sub_left_lt_of_lt_add e7, ?_⟩
        rw [e8, kindV, if_pos ha]; simp; exact ar_324
      · simp only [decide_eq_false ha, Bool.false_eq_true, if_false]
        refine ⟨⟨[], by simp⟩, _, _, rfl, ?_, rfl⟩
        rw [e8, kindV, if_neg ha]; simp
  · exact ⟨[], ns, r, rfl, by simp, rfl, by (first | ((repeat (first | exact upd_same | refine (upd_ne rfl).trans ?_)); done) | simp [upd, str_eq_iff]), by (first | ((repeat (first | exact upd_same | refine (upd_ne rfl).trans ?_)); done) | simp [upd, str_eq_iff]), by simp [upd], hr, hs, by simp⟩
theorem wF_kind {σ : Store} {i : Nat} {ns : List Int} {r : Int} {Q} (h : σ[i]? = some (.list (ns.map .int))) (hr : 0 ≤ r) (hs : r < ns.sum) (hl : ns.length < 1000) : wF sp_kind_of [.ref i, .int r] σ Q ↔ Q (.int (kindV ns r)) σ := wF_eq (kind_eq h hr hs hl)
noncomputable def kindI (ns : List Int) (r : Int) : Int := (kindV ns r : Int)
noncomputable def shortV (ns rs : List Int) (ws : List (Int × Int)) : Option Nat := (List.range ns.length).find? fun k => decide (atL (rs.map (kindI ns)) k < atL (ws.map (·.2)) k)
noncomputable def optV : Option Nat → AV
  | none => .none
  | some k => .int k
theorem atLeast_eq {σ : Store} {i : Nat} {l : List Int} {k : Int} (h : σ[i]? = some (.list (l.map .int))) : sp_law_at_least [.ref i, .int k] σ = some (.int (atL l k), σ) := by
  refine wF_get (wF_fn rfl ?_)
  simp only [List.zip_cons_cons, List.zip_nil_right, List.zip_nil_left, bindE, wS_seq_e, wS_assign_e, wS_if_e, wS_nil_e, wS_ret_e, thenS, wA_bin_e, wA_int_e, wA_bool_e, wA_none_e, wA_cmp_e, wA_bcmp_e, wA_bval_e, wA_bnot_e, wA_not_e, wA_neg_e, wA_band_nil_e, wA_band_cons_e, wA_bor_nil_e, wA_bor_cons_e, wA_vand1_e, wA_vand_e, wA_here_e, wA_there_e, str_eq_iff_e, String.reduceEq, not_false_eq_true, wA_list_e, wA_tup_e, wA_args_nil_e, wA_args_cons_e, wA_call_e, wA_sub_e, wA_isi_e, w2_add_e, w2_sub_e, w2_mod_e, w2_div_e, w2_mul_e, w2_pow_e, wC_lt_e, wC_gt_e, wC_ge_e, wC_eqi_e, wC_eqb_e, List.length_nil, List.length_cons, List.length_map, exp_int, exp_bool, exp_none, aTruth, Option.some.injEq, exL_e, Int.reduceLE, Int.reduceLT, Int.reduceEq, Int.reduceNe, ne_eq, and_true, true_and, Nat.reduceLeDiff, Nat.reduceAdd, Int.reduceNeg, Nat.reduceLT, and_self, nzl_e]
  refine wA_compI (fun n => decide (k ≤ n)) .int ?_
  simp only [List.zip_cons_cons, List.zip_nil_right, List.zip_nil_left, bindE, wS_seq_e, wS_assign_e, wS_if_e, wS_nil_e, wS_ret_e, thenS, wA_bin_e, wA_int_e, wA_bool_e, wA_none_e, wA_cmp_e, wA_bcmp_e, wA_bval_e, wA_bnot_e, wA_not_e, wA_neg_e, wA_band_nil_e, wA_band_cons_e, wA_bor_nil_e, wA_bor_cons_e, wA_vand1_e, wA_vand_e, wA_here_e, wA_there_e, str_eq_iff_e, String.reduceEq, not_false_eq_true, wA_list_e, wA_tup_e, wA_args_nil_e, wA_args_cons_e, wA_call_e, wA_sub_e, wA_isi_e, w2_add_e, w2_sub_e, w2_mod_e, w2_div_e, w2_mul_e, w2_pow_e, wC_lt_e, wC_gt_e, wC_ge_e, wC_eqi_e, wC_eqb_e, List.length_nil, List.length_cons, List.length_map, exp_int, exp_bool, exp_none, aTruth, Option.some.injEq, exL_e, Int.reduceLE, Int.reduceLT, Int.reduceEq, Int.reduceNe, ne_eq, and_true, true_and, Nat.reduceLeDiff, Nat.reduceAdd, Int.reduceNeg, Nat.reduceLT, and_self, nzl_e]
  refine ⟨l, items_list h, fun n hn => ?_, ?_⟩
  · by_cases hk : k ≤ n <;> simp [hk, AV.closed]
  · rw [wF_len new_get]
    simp only [List.zip_cons_cons, List.zip_nil_right, List.zip_nil_left, bindE, wS_seq_e, wS_assign_e, wS_if_e, wS_nil_e, wS_ret_e, thenS, wA_bin_e, wA_int_e, wA_bool_e, wA_none_e, wA_cmp_e, wA_bcmp_e, wA_bval_e, wA_bnot_e, wA_not_e, wA_neg_e, wA_band_nil_e, wA_band_cons_e, wA_bor_nil_e, wA_bor_cons_e, wA_vand1_e, wA_vand_e, wA_here_e, wA_there_e, str_eq_iff_e, String.reduceEq, not_false_eq_true, wA_list_e, wA_tup_e, wA_args_nil_e, wA_args_cons_e, wA_call_e, wA_sub_e, wA_isi_e, w2_add_e, w2_sub_e, w2_mod_e, w2_div_e, w2_mul_e, w2_pow_e, wC_lt_e, wC_gt_e, wC_ge_e, wC_eqi_e, wC_eqb_e, List.length_nil, List.length_cons, List.length_map, exp_int, exp_bool, exp_none, aTruth, Option.some.injEq, exL_e, Int.reduceLE, Int.reduceLT, Int.reduceEq, Int.reduceNe, ne_eq, and_true, true_and, Nat.reduceLeDiff, Nat.reduceAdd, Int.reduceNeg, Nat.reduceLT, and_self, nzl_e]
    exact ⟨ext_self, _, _, rfl, rfl, rfl⟩
theorem wF_atLeast {σ : Store} {i : Nat} {l : List Int} {k : Int} {Q} (h : σ[i]? = some (.list (l.map .int))) : wF sp_law_at_least [.ref i, .int k] σ Q ↔ Q (.int (atL l k)) σ := wF_eq (atLeast_eq h)
noncomputable def spareV (ns rs : List Int) (ws : List (Int × Int)) (k : Int) : Int := atL (rs.map (kindI ns)) k - atL (ws.map (·.2)) k
theorem spare_eq {σ : Store} {i j m : Nat} {ns rs : List Int} {ws : List (Int × Int)} {k : Int} (h : σ[i]? = some (.list (ns.map .int))) (hl : ns.length < 1000) (hr : σ[j]? = some (.list (rs.map .int))) (hrs : ∀ r ∈ rs, 0 ≤ r ∧ r < ns.sum) (hw : σ[m]? = some (.dict (inD ws))) (hnd : (ws.map (·.1)).Nodup) :
    sp_spare_of [.ref i, .ref j, .ref m, .int k] σ = some (.int (spareV ns rs ws k), σ) := by
  refine wF_get (wF_fn rfl ?_)
  simp only [List.zip_cons_cons, List.zip_nil_right, List.zip_nil_left, bindE, wS_seq_e, wS_assign_e, wS_if_e, wS_nil_e, wS_ret_e, thenS, wA_bin_e, wA_int_e, wA_bool_e, wA_none_e, wA_cmp_e, wA_bcmp_e, wA_bval_e, wA_bnot_e, wA_not_e, wA_neg_e, wA_band_nil_e, wA_band_cons_e, wA_bor_nil_e, wA_bor_cons_e, wA_vand1_e, wA_vand_e, wA_here_e, wA_there_e, str_eq_iff_e, String.reduceEq, not_false_eq_true, wA_list_e, wA_tup_e, wA_args_nil_e, wA_args_cons_e, wA_call_e, wA_sub_e, wA_isi_e, w2_add_e, w2_sub_e, w2_mod_e, w2_div_e, w2_mul_e, w2_pow_e, wC_lt_e, wC_gt_e, wC_ge_e, wC_eqi_e, wC_eqb_e, List.length_nil, List.length_cons, List.length_map, exp_int, exp_bool, exp_none, aTruth, Option.some.injEq, exL_e, Int.reduceLE, Int.reduceLT, Int.reduceEq, Int.reduceNe, ne_eq, and_true, true_and, Nat.reduceLeDiff, Nat.reduceAdd, Int.reduceNeg, Nat.reduceLT, and_self, nzl_e]
  refine wA_compI (fun r => decide (k ≤ kindI ns r)) .int ?_
  simp only [List.zip_cons_cons, List.zip_nil_right, List.zip_nil_left, bindE, wS_seq_e, wS_assign_e, wS_if_e, wS_nil_e, wS_ret_e, thenS, wA_bin_e, wA_int_e, wA_bool_e, wA_none_e, wA_cmp_e, wA_bcmp_e, wA_bval_e, wA_bnot_e, wA_not_e, wA_neg_e, wA_band_nil_e, wA_band_cons_e, wA_bor_nil_e, wA_bor_cons_e, wA_vand1_e, wA_vand_e, wA_here_e, wA_there_e, str_eq_iff_e, String.reduceEq, not_false_eq_true, wA_list_e, wA_tup_e, wA_args_nil_e, wA_args_cons_e, wA_call_e, wA_sub_e, wA_isi_e, w2_add_e, w2_sub_e, w2_mod_e, w2_div_e, w2_mul_e, w2_pow_e, wC_lt_e, wC_gt_e, wC_ge_e, wC_eqi_e, wC_eqb_e, List.length_nil, List.length_cons, List.length_map, exp_int, exp_bool, exp_none, aTruth, Option.some.injEq, exL_e, Int.reduceLE, Int.reduceLT, Int.reduceEq, Int.reduceNe, ne_eq, and_true, true_and, Nat.reduceLeDiff, Nat.reduceAdd, Int.reduceNeg, Nat.reduceLT, and_self, nzl_e]
  refine ⟨rs, items_list hr, fun r hrr => ?_, ?_⟩
  · have hb := hrs r hrr
    simp only [List.zip_cons_cons, List.zip_nil_right, List.zip_nil_left, bindE, wS_seq_e, wS_assign_e, wS_if_e, wS_nil_e, wS_ret_e, thenS, wA_bin_e, wA_int_e, wA_bool_e, wA_none_e, wA_cmp_e, wA_bcmp_e, wA_bval_e, wA_bnot_e, wA_not_e, wA_neg_e, wA_band_nil_e, wA_band_cons_e, wA_bor_nil_e, wA_bor_cons_e, wA_vand1_e, wA_vand_e, wA_here_e, wA_there_e, str_eq_iff_e, String.reduceEq, not_false_eq_true, wA_list_e, wA_tup_e, wA_args_nil_e, wA_args_cons_e, wA_call_e, wA_sub_e, wA_isi_e, w2_add_e, w2_sub_e, w2_mod_e, w2_div_e, w2_mul_e, w2_pow_e, wC_lt_e, wC_gt_e, wC_ge_e, wC_eqi_e, wC_eqb_e, List.length_nil, List.length_cons, List.length_map, exp_int, exp_bool, exp_none, aTruth, Option.some.injEq, exL_e, Int.reduceLE, Int.reduceLT, Int.reduceEq, Int.reduceNe, ne_eq, and_true, true_and, Nat.reduceLeDiff, Nat.reduceAdd, Int.reduceNeg, Nat.reduceLT, and_self, nzl_e, wF_kind h hb.1 hb.2 hl]
    have e : (kindV ns r : Int) = kindI ns r := rfl
    rw [e]
    by_cases hk : k ≤ kindI ns r <;> simp [hk, AV.closed]
  · rw [wF_len new_get]
    simp only [List.zip_cons_cons, List.zip_nil_right, List.zip_nil_left, bindE, wS_seq_e, wS_assign_e, wS_if_e, wS_nil_e, wS_ret_e, thenS, wA_bin_e, wA_int_e, wA_bool_e, wA_none_e, wA_cmp_e, wA_bcmp_e, wA_bval_e, wA_bnot_e, wA_not_e, wA_neg_e, wA_band_nil_e, wA_band_cons_e, wA_bor_nil_e, wA_bor_cons_e, wA_vand1_e, wA_vand_e, wA_here_e, wA_there_e, str_eq_iff_e, String.reduceEq, not_false_eq_true, wA_list_e, wA_tup_e, wA_args_nil_e, wA_args_cons_e, wA_call_e, wA_sub_e, wA_isi_e, w2_add_e, w2_sub_e, w2_mod_e, w2_div_e, w2_mul_e, w2_pow_e, wC_lt_e, wC_gt_e, wC_ge_e, wC_eqi_e, wC_eqb_e, List.length_nil, List.length_cons, List.length_map, exp_int, exp_bool, exp_none, aTruth, Option.some.injEq, exL_e, Int.reduceLE, Int.reduceLT, Int.reduceEq, Int.reduceNe, ne_eq, and_true, true_and, Nat.reduceLeDiff, Nat.reduceAdd, Int.reduceNeg, Nat.reduceLT, and_self, nzl_e]
    refine wA_compI (fun n => decide (k ≤ getW ws n)) .int ?_
    simp only [List.zip_cons_cons, List.zip_nil_right, List.zip_nil_left, bindE, wS_seq_e, wS_assign_e, wS_if_e, wS_nil_e, wS_ret_e, thenS, wA_bin_e, wA_int_e, wA_bool_e, wA_none_e, wA_cmp_e, wA_bcmp_e, wA_bval_e, wA_bnot_e, wA_not_e, wA_neg_e, wA_band_nil_e, wA_band_cons_e, wA_bor_nil_e, wA_bor_cons_e, wA_vand1_e, wA_vand_e, wA_here_e, wA_there_e, str_eq_iff_e, String.reduceEq, not_false_eq_true, wA_list_e, wA_tup_e, wA_args_nil_e, wA_args_cons_e, wA_call_e, wA_sub_e, wA_isi_e, w2_add_e, w2_sub_e, w2_mod_e, w2_div_e, w2_mul_e, w2_pow_e, wC_lt_e, wC_gt_e, wC_ge_e, wC_eqi_e, wC_eqb_e, List.length_nil, List.length_cons, List.length_map, exp_int, exp_bool, exp_none, aTruth, Option.some.injEq, exL_e, Int.reduceLE, Int.reduceLT, Int.reduceEq, Int.reduceNe, ne_eq, and_true, true_and, Nat.reduceLeDiff, Nat.reduceAdd, Int.reduceNeg, Nat.reduceLT, and_self, nzl_e]
    have hw1 := app_get (τ := [.list ((rs.filter fun r => decide (k ≤ kindI ns r)).map .int)]) hw
    refine ⟨ws.map (·.1), by rw [items_dict hw1, inD_keys], fun n hn => ?_, ?_⟩
    · simp (maxDischargeDepth := 9) only [List.zip_cons_cons, List.zip_nil_right, List.zip_nil_left, bindE, wS_seq_e, wS_assign_e, wS_if_e, wS_nil_e, wS_ret_e, thenS, wA_bin_e, wA_int_e, wA_bool_e, wA_none_e, wA_cmp_e, wA_bcmp_e, wA_bval_e, wA_bnot_e, wA_not_e, wA_neg_e, wA_band_nil_e, wA_band_cons_e, wA_bor_nil_e, wA_bor_cons_e, wA_vand1_e, wA_vand_e, wA_here_e, wA_there_e, str_eq_iff_e, String.reduceEq, not_false_eq_true, wA_list_e, wA_tup_e, wA_args_nil_e, wA_args_cons_e, wA_call_e, wA_sub_e, wA_isi_e, w2_add_e, w2_sub_e, w2_mod_e, w2_div_e, w2_mul_e, w2_pow_e, wC_lt_e, wC_gt_e, wC_ge_e, wC_eqi_e, wC_eqb_e, List.length_nil, List.length_cons, List.length_map, exp_int, exp_bool, exp_none, aTruth, Option.some.injEq, exL_e, Int.reduceLE, Int.reduceLT, Int.reduceEq, Int.reduceNe, ne_eq, and_true, true_and, Nat.reduceLeDiff, Nat.reduceAdd, Int.reduceNeg, Nat.reduceLT, and_self, nzl_e, w2_get hw1 (inD_look hn)]
      by_cases hk : k ≤ getW ws n <;> simp [hk, AV.closed]
    · rw [wF_len new_get]
      simp only [List.zip_cons_cons, List.zip_nil_right, List.zip_nil_left, bindE, wS_seq_e, wS_assign_e, wS_if_e, wS_nil_e, wS_ret_e, thenS, wA_bin_e, wA_int_e, wA_bool_e, wA_none_e, wA_cmp_e, wA_bcmp_e, wA_bval_e, wA_bnot_e, wA_not_e, wA_neg_e, wA_band_nil_e, wA_band_cons_e, wA_bor_nil_e, wA_bor_cons_e, wA_vand1_e, wA_vand_e, wA_here_e, wA_there_e, str_eq_iff_e, String.reduceEq, not_false_eq_true, wA_list_e, wA_tup_e, wA_args_nil_e, wA_args_cons_e, wA_call_e, wA_sub_e, wA_isi_e, w2_add_e, w2_sub_e, w2_mod_e, w2_div_e, w2_mul_e, w2_pow_e, wC_lt_e, wC_gt_e, wC_ge_e, wC_eqi_e, wC_eqb_e, List.length_nil, List.length_cons, List.length_map, exp_int, exp_bool, exp_none, aTruth, Option.some.injEq, exL_e, Int.reduceLE, Int.reduceLT, Int.reduceEq, Int.reduceNe, ne_eq, and_true, true_and, Nat.reduceLeDiff, Nat.reduceAdd, Int.reduceNeg, Nat.reduceLT, and_self, nzl_e]
      refine ⟨ext_app ext_self, _, _, rfl, ?_, rfl⟩
      rw [spareV, atL_map, atL_wants hnd]
theorem wF_spare {σ : Store} {i j m : Nat} {ns rs : List Int} {ws : List (Int × Int)} {k : Int} {Q} (h : σ[i]? = some (.list (ns.map .int))) (hl : ns.length < 1000) (hr : σ[j]? = some (.list (rs.map .int))) (hrs : ∀ r ∈ rs, 0 ≤ r ∧ r < ns.sum) (hw : σ[m]? = some (.dict (inD ws))) (hnd : (ws.map (·.1)).Nodup) :
    wF sp_spare_of [.ref i, .ref j, .ref m, .int k] σ Q ↔ Q (.int (spareV ns rs ws k)) σ := wF_eq (spare_eq h hl hr hrs hw hnd)
structure RsI (σ : Store) (i j : Nat) (kl : List Int) (k : Nat) (ρ' : AEnv) (σ' : Store) : Prop where
  f0 : ρ' "_law_script" = some (.ref i)
  f1 : ρ' "_law_kinds_here" = some (.ref j)
  f2 : ρ' "_law_found" = some (.ref σ.length)
  f3 : ∃ rs : List Int, σ' = σ ++ [.list (rs.map .int)] ∧ (∀ r ∈ rs, 0 ≤ r ∧ r < kl.length) ∧ rs.length ≤ k
theorem rooms_ok {σ : Store} {i j : Nat} {sc kl : List Int} (h : σ[i]? = some (.list (sc.map .int))) (hl : sc.length ≤ 1000) (hj : σ[j]? = some (.list (kl.map .int))) (hkl : ∀ x ∈ kl, 0 ≤ x ∧ x < 1000) (hkn : kl.length < 1000) :
    wF sp_law_rooms_by [.ref i, .ref j] σ fun v s => ∃ rs : List Int, (∀ r ∈ rs, 0 ≤ r ∧ r < kl.length) ∧ rs.length ≤ kl.length ∧ v = .ref σ.length ∧ s = σ ++ [.list (rs.map .int)] := by
  have cell : ∀ {σ' : Store} {k : Int} {Q}, Ext σ σ' → 0 ≤ k → k < 1000000 → (wF sp_law_cell [.ref i, .int k] σ' Q ↔ Q (.int (cellV sc k)) σ') := fun hτ h0 h1 => wF_cell (hτ.get h) h0 h1 hl
  refine wF_fn rfl ?_
  refine wS_seq.2 ?_
  simp only [wS_assign_e, wA_list_e, wA_args_nil_e, thenS, List.length_nil, List.zip_cons_cons, List.zip_nil_right, bindE]
  refine ⟨by exact ar_303, ?_⟩
  refine wS_cut (fun ρ' σ' => ρ' "_law_found" = some (.ref σ.length) ∧ ∃ rs : List Int, σ' = σ ++ [.list (rs.map .int)] ∧ (∀ r ∈ rs, 0 ≤ r ∧ r < kl.length) ∧ rs.length ≤ kl.length) ?_ ?_
  · refine wS_forN kl.length (by exact ar_325 hkn) (RsI σ i j kl) ?_ ?_ ?_
    · have h1 := app_get (τ := [.list []]) hj
      simp (maxDischargeDepth := 9) only [List.zip_cons_cons, List.zip_nil_right, List.zip_nil_left, bindE, wS_seq_e, wS_assign_e, wS_if_e, wS_nil_e, wS_ret_e, thenS, wA_bin_e, wA_int_e, wA_bool_e, wA_none_e, wA_cmp_e, wA_bcmp_e, wA_bval_e, wA_bnot_e, wA_not_e, wA_neg_e, wA_band_nil_e, wA_band_cons_e, wA_bor_nil_e, wA_bor_cons_e, wA_vand1_e, wA_vand_e, wA_here_e, wA_there_e, str_eq_iff_e, String.reduceEq, not_false_eq_true, wA_list_e, wA_tup_e, wA_args_nil_e, wA_args_cons_e, wA_call_e, wA_sub_e, wA_isi_e, w2_add_e, w2_sub_e, w2_mod_e, w2_div_e, w2_mul_e, w2_pow_e, wC_lt_e, wC_gt_e, wC_ge_e, wC_eqi_e, wC_eqb_e, List.length_nil, List.length_cons, List.length_map, exp_int, exp_bool, exp_none, aTruth, Option.some.injEq, exL_e, Int.reduceLE, Int.reduceLT, Int.reduceEq, Int.reduceNe, ne_eq, and_true, true_and, Nat.reduceLeDiff, Nat.reduceAdd, Int.reduceNeg, Nat.reduceLT, and_self, nzl_e, wF_len h1, wF_range1_e]
      exact ⟨by (first | ((repeat (first | exact upd_same | refine (upd_ne rfl).trans ?_)); done) | simp [upd, str_eq_iff]), by (first | ((repeat (first | exact upd_same | refine (upd_ne rfl).trans ?_)); done) | simp [upd, str_eq_iff]), upd_same, [], rfl, by simp, Nat.le_refl _⟩
    · rintro k ρ' σ' hk ⟨e1, e2, e3, rs, rfl, e4, e5⟩
      have hit : (kl.map AV.int)[(k : Int).toNat]? = some (.int kl[k]) := by simp [hk]
      have hb := hkl kl[k] (by simp)
      have h1 := app_get (τ := [.list (rs.map .int)]) hj
      have c1 : (0 : Int) ≤ 20 + kl[k] := by exact ar_326 hb
      have c2 : 20 + kl[k] < 1000000 := by exact ar_327 hb
      have c3 : (0 : Int) ≤ 30 + (k : Int) := by exact ar_328
      have c4 : 30 + (k : Int) < 1000000 := by exact ar_329 hkn hk
      refine wS_cut (fun ρ1 σ1 => ∃ b, ρ1 = upd (upd ρ' "_law_room" (.int k)) "_law_away" (.bool b) ∧ σ1 = σ ++ [.list (rs.map .int)]) ?_ ?_
      · simp (maxDischargeDepth := 9) only [List.zip_cons_cons, List.zip_nil_right, List.zip_nil_left, bindE, wS_seq_e, wS_assign_e, wS_if_e, wS_nil_e, wS_ret_e, thenS, wA_bin_e, wA_int_e, wA_bool_e, wA_none_e, wA_cmp_e, wA_bcmp_e, wA_bval_e, wA_bnot_e, wA_not_e, wA_neg_e, wA_band_nil_e, wA_band_cons_e, wA_bor_nil_e, wA_bor_cons_e, wA_vand1_e, wA_vand_e, wA_here_e, wA_there_e, str_eq_iff_e, String.reduceEq, not_false_eq_true, wA_list_e, wA_tup_e, wA_args_nil_e, wA_args_cons_e, wA_call_e, wA_sub_e, wA_isi_e, w2_add_e, w2_sub_e, w2_mod_e, w2_div_e, w2_mul_e, w2_pow_e, wC_lt_e, wC_gt_e, wC_ge_e, wC_eqi_e, wC_eqb_e, List.length_nil, List.length_cons, List.length_map, exp_int, exp_bool, exp_none, aTruth, Option.some.injEq, exL_e, Int.reduceLE, Int.reduceLT, Int.reduceEq, Int.reduceNe, ne_eq, and_true, true_and, Nat.reduceLeDiff, Nat.reduceAdd, Int.reduceNeg, Nat.reduceLT, and_self, nzl_e, cell, ext_refl_e, ext_app_e, wA_name e1, wA_name e2]
        cases ((cellV sc 2).fmod 3 == 1) with
        | false => simp only [Bool.false_eq_true, if_false]; exact ⟨_, rfl⟩
        | true =>
          simp (maxDischargeDepth := 9) only [List.zip_cons_cons, List.zip_nil_right, List.zip_nil_left, bindE, wS_seq_e, wS_assign_e, wS_if_e, wS_nil_e, wS_ret_e, thenS, wA_bin_e, wA_int_e, wA_bool_e, wA_none_e, wA_cmp_e, wA_bcmp_e, wA_bval_e, wA_bnot_e, wA_not_e, wA_neg_e, wA_band_nil_e, wA_band_cons_e, wA_bor_nil_e, wA_bor_cons_e, wA_vand1_e, wA_vand_e, wA_here_e, wA_there_e, str_eq_iff_e, String.reduceEq, not_false_eq_true, wA_list_e, wA_tup_e, wA_args_nil_e, wA_args_cons_e, wA_call_e, wA_sub_e, wA_isi_e, w2_add_e, w2_sub_e, w2_mod_e, w2_div_e, w2_mul_e, w2_pow_e, wC_lt_e, wC_gt_e, wC_ge_e, wC_eqi_e, wC_eqb_e, List.length_nil, List.length_cons, List.length_map, exp_int, exp_bool, exp_none, aTruth, Option.some.injEq, exL_e, Int.reduceLE, Int.reduceLT, Int.reduceEq, Int.reduceNe, ne_eq, and_true, true_and, Nat.reduceLeDiff, Nat.reduceAdd, Int.reduceNeg, Nat.reduceLT, and_self, nzl_e, cell, ext_refl_e, ext_app_e, wA_name e1, wA_name e2, if_true, w2_item h1 (Int.natCast_nonneg _) hit, c1, c2]
          exact ⟨_, rfl⟩
      · rintro _ _ ⟨b, rfl, rfl⟩
        rw [wS_seq]
        refine wS_if_of (fun _ σ1 => σ1 = σ ++ [.list (rs.map .int)]) ?_ ?_ ?_
        · simp (maxDischargeDepth := 9) only [List.zip_cons_cons, List.zip_nil_right, List.zip_nil_left, bindE, wS_seq_e, wS_assign_e, wS_if_e, wS_nil_e, wS_ret_e, thenS, wA_bin_e, wA_int_e, wA_bool_e, wA_none_e, wA_cmp_e, wA_bcmp_e, wA_bval_e, wA_bnot_e, wA_not_e, wA_neg_e, wA_band_nil_e, wA_band_cons_e, wA_bor_nil_e, wA_bor_cons_e, wA_vand1_e, wA_vand_e, wA_here_e, wA_there_e, str_eq_iff_e, String.reduceEq, not_false_eq_true, wA_list_e, wA_tup_e, wA_args_nil_e, wA_args_cons_e, wA_call_e, wA_sub_e, wA_isi_e, w2_add_e, w2_sub_e, w2_mod_e, w2_div_e, w2_mul_e, w2_pow_e, wC_lt_e, wC_gt_e, wC_ge_e, wC_eqi_e, wC_eqb_e, List.length_nil, List.length_cons, List.length_map, exp_int, exp_bool, exp_none, aTruth, Option.some.injEq, exL_e, Int.reduceLE, Int.reduceLT, Int.reduceEq, Int.reduceNe, ne_eq, and_true, true_and, Nat.reduceLeDiff, Nat.reduceAdd, Int.reduceNeg, Nat.reduceLT, and_self, nzl_e]
          cases b with
          | true => simp
          | false => simp (maxDischargeDepth := 9) only [List.zip_cons_cons, List.zip_nil_right, List.zip_nil_left, bindE, wS_seq_e, wS_assign_e, wS_if_e, wS_nil_e, wS_ret_e, thenS, wA_bin_e, wA_int_e, wA_bool_e, wA_none_e, wA_cmp_e, wA_bcmp_e, wA_bval_e, wA_bnot_e, wA_not_e, wA_neg_e, wA_band_nil_e, wA_band_cons_e, wA_bor_nil_e, wA_bor_cons_e, wA_vand1_e, wA_vand_e, wA_here_e, wA_there_e, str_eq_iff_e, String.reduceEq, not_false_eq_true, wA_list_e, wA_tup_e, wA_args_nil_e, wA_args_cons_e, wA_call_e, wA_sub_e, wA_isi_e, w2_add_e, w2_sub_e, w2_mod_e, w2_div_e, w2_mul_e, w2_pow_e, wC_lt_e, wC_gt_e, wC_ge_e, wC_eqi_e, wC_eqb_e, List.length_nil, List.length_cons, List.length_map, exp_int, exp_bool, exp_none, aTruth, Option.some.injEq, exL_e, Int.reduceLE, Int.reduceLT, Int.reduceEq, Int.reduceNe, ne_eq, and_true, true_and, Nat.reduceLeDiff, Nat.reduceAdd, Int.reduceNeg, Nat.reduceLT, and_self, nzl_e, cell, ext_refl_e, ext_app_e, wA_name e1, c3, c4, wF_int, Bool.not_false, if_true, if_false, ite_self]
        · rintro _ rfl
          have e3' : upd (upd ρ' "_law_room" (.int k)) "_law_away" (.bool b) "_law_found" = some (.ref σ.length) := by (first | ((repeat (first | exact e3 | refine (upd_ne rfl).trans ?_)); done) | simpa [upd, str_eq_iff] using e3)
          simp only [wS_seq_e, wS_append e3' new_get (Nat.le_refl _) (show (rs.map AV.int).length < 1000000 by simp; exact ar_330 hkn hk e5)]
          simp (maxDischargeDepth := 9) only [List.zip_cons_cons, List.zip_nil_right, List.zip_nil_left, bindE, wS_seq_e, wS_assign_e, wS_if_e, wS_nil_e, wS_ret_e, thenS, wA_bin_e, wA_int_e, wA_bool_e, wA_none_e, wA_cmp_e, wA_bcmp_e, wA_bval_e, wA_bnot_e, wA_not_e, wA_neg_e, wA_band_nil_e, wA_band_cons_e, wA_bor_nil_e, wA_bor_cons_e, wA_vand1_e, wA_vand_e, wA_here_e, wA_there_e, str_eq_iff_e, String.reduceEq, not_false_eq_true, wA_list_e, wA_tup_e, wA_args_nil_e, wA_args_cons_e, wA_call_e, wA_sub_e, wA_isi_e, w2_add_e, w2_sub_e, w2_mod_e, w2_div_e, w2_mul_e, w2_pow_e, wC_lt_e, wC_gt_e, wC_ge_e, wC_eqi_e, wC_eqb_e, List.length_nil, List.length_cons, List.length_map, exp_int, exp_bool, exp_none, aTruth, Option.some.injEq, exL_e, Int.reduceLE, Int.reduceLT, Int.reduceEq, Int.reduceNe, ne_eq, and_true, true_and, Nat.reduceLeDiff, Nat.reduceAdd, Int.reduceNeg, Nat.reduceLT, and_self, nzl_e]
          refine ⟨by (first | ((repeat (first | exact e1 | refine (upd_ne rfl).trans ?_)); done) | simpa [upd, str_eq_iff] using e1), by (first | ((repeat (first | exact e2 | refine (upd_ne rfl).trans ?_)); done) | simpa [upd, str_eq_iff] using e2), by (first | ((repeat (first | exact e3 | refine (upd_ne rfl).trans ?_)); done) | simpa [upd, str_eq_iff] using e3), rs ++ [(k : Int)], by simp, fun r hr => ?_, by simp; exact ar_331 e5⟩
          rcases List.mem_append.mp hr with hr | hr
          · exact e4 r hr
          · simp at hr; exact ar_332 hr hk
        · rintro _ rfl
          simp only [wS_nil_e, thenS]
          exact ⟨by (first | ((repeat (first | exact e1 | refine (upd_ne rfl).trans ?_)); done) | simpa [upd, str_eq_iff] using e1), by (first | ((repeat (first | exact e2 | refine (upd_ne rfl).trans ?_)); done) | simpa [upd, str_eq_iff] using e2), by (first | ((repeat (first | exact e3 | refine (upd_ne rfl).trans ?_)); done) | simpa [upd, str_eq_iff] using e3), rs, rfl, e4, by exact Nat.le_add_right_of_le e5⟩
    · rintro ρ' σ' ⟨e1, e2, e3, rs, rfl, e4, e5⟩
      exact ⟨rfl, e3, rs, rfl, e4, e5⟩
  · rintro ρ' σ' ⟨e3, rs, rfl, e4, e5⟩
    simp (maxDischargeDepth := 9) only [List.zip_cons_cons, List.zip_nil_right, List.zip_nil_left, bindE, wS_seq_e, wS_assign_e, wS_if_e, wS_nil_e, wS_ret_e, thenS, wA_bin_e, wA_int_e, wA_bool_e, wA_none_e, wA_cmp_e, wA_bcmp_e, wA_bval_e, wA_bnot_e, wA_not_e, wA_neg_e, wA_band_nil_e, wA_band_cons_e, wA_bor_nil_e, wA_bor_cons_e, wA_vand1_e, wA_vand_e, wA_here_e, wA_there_e, str_eq_iff_e, String.reduceEq, not_false_eq_true, wA_list_e, wA_tup_e, wA_args_nil_e, wA_args_cons_e, wA_call_e, wA_sub_e, wA_isi_e, w2_add_e, w2_sub_e, w2_mod_e, w2_div_e, w2_mul_e, w2_pow_e, wC_lt_e, wC_gt_e, wC_ge_e, wC_eqi_e, wC_eqb_e, List.length_nil, List.length_cons, List.length_map, exp_int, exp_bool, exp_none, aTruth, Option.some.injEq, exL_e, Int.reduceLE, Int.reduceLT, Int.reduceEq, Int.reduceNe, ne_eq, and_true, true_and, Nat.reduceLeDiff, Nat.reduceAdd, Int.reduceNeg, Nat.reduceLT, and_self, nzl_e, wA_name e3]
    exact ⟨ext_self, _, _, exp_new (Nat.le_refl _) new_get (closed_intL _ _), rs, e4, e5, rfl, rfl⟩
structure GsW (σ σ' : Store) (B : Nat) (kl : List Int) (k : Nat) (W H : List (Int × Int)) : Prop where
  f0 : σ'[σ.length]? = some (.dict (inD H))
  f1 : σ'[σ.length + 1]? = some (.dict (inD W))
  f2 : (W.map (·.1)).Nodup
  f3 : (H.map (·.1)).Nodup
  f4 : W.length ≤ 2 * k
  f5 : H.length ≤ k
  f6 : ∀ p ∈ W, 0 ≤ p.2 ∧ p.2 < B
  f7 : ∀ p ∈ H, 0 ≤ p.2 ∧ p.2 < kl.length
structure GsI (σ : Store) (i j B : Nat) (kl : List Int) (k : Nat) (ρ' : AEnv) (σ' : Store) : Prop where
  f0 : Ext σ σ'
  f1 : ρ' "_law_script" = some (.ref i)
  f2 : ρ' "_law_kinds_here" = some (.ref j)
  f3 : ρ' "_law_ahead" = some (.ref σ.length)
  f4 : ρ' "_law_wants" = some (.ref (σ.length + 1))
  f5 : ∃ W H : List (Int × Int), GsW σ σ' B kl k W H
theorem guests_ok {σ : Store} {i j B : Nat} {sc kl : List Int} (h : σ[i]? = some (.list (sc.map .int))) (hl : sc.length ≤ 1000) (hj : σ[j]? = some (.list (kl.map .int))) (hkl : ∀ x ∈ kl, 0 ≤ x ∧ x < B) (hB : B < 1000) (hB0 : 0 < B) (hkn : kl.length < 1000) :
    wF sp_law_guests_by [.ref i, .ref j] σ fun v s => ∃ W H : List (Int × Int), (W.map (·.1)).Nodup ∧ (H.map (·.1)).Nodup ∧ W.length ≤ 2 * kl.length ∧ (∀ p ∈ W, 0 ≤ p.2 ∧ p.2 < B) ∧ (∀ p ∈ H, 0 ≤ p.2 ∧ p.2 < kl.length) ∧
      v = .tup [.ref σ.length, .ref (σ.length + 1)] ∧ s = σ ++ [.dict (inD W), .dict (inD H)] := by
  have cell : ∀ {σ' : Store} {k : Int} {Q}, Ext σ σ' → 0 ≤ k → k < 1000000 → (wF sp_law_cell [.ref i, .int k] σ' Q ↔ Q (.int (cellV sc k)) σ') := fun hτ h0 h1 => wF_cell (hτ.get h) h0 h1 hl
  have hr := fmod_lt (cellV sc 8) (b := 4) (by decide)
  have hk : ∃ q : Int, ([.int 0, .int 0, .int (-50), .int (10 ^ Int.toNat 20)] : List AV)[((cellV sc 8).fmod 4).toNat]? = some (.int q) := by
    generalize (cellV sc 8).fmod 4 = z at hr
    have : z = 0 ∨ z = 1 ∨ z = 2 ∨ z = 3 := by exact ar_310 hr
    rcases this with rfl | rfl | rfl | rfl
    · exact ⟨0, rfl⟩
    · exact ⟨0, rfl⟩
    · exact ⟨-50, rfl⟩
    · exact ⟨_, rfl⟩
  obtain ⟨q, hq⟩ := hk
  refine wF_fn rfl ?_
  refine wS_seq.2 ?_
  simp only [wS_assign_e, wA_dict0_e, thenS, List.zip_cons_cons, List.zip_nil_right, bindE]
  refine wS_seq.2 ?_
  simp only [wS_assign_e, wA_dict0_e, thenS]
  have fin : ∀ ρ' σ', GsI σ i j B kl kl.length ρ' σ' → wS (sSeq (sRet (aTup [(aName "_law_wants"), (aName "_law_ahead")])) sNil) ρ' σ' fun f _ σ'' => (∃ τ, σ'' = σ ++ τ) ∧ ∃ v s, exportT σ (match f with | .ret v => v | .next => .none) σ'' = some (v, s) ∧ ∃ W H : List (Int × Int), (W.map (·.1)).Nodup ∧ (H.map (·.1)).Nodup ∧ W.length ≤ 2 * kl.length ∧ (∀ p ∈ W, 0 ≤ p.2 ∧ p.2 < B) ∧ (∀ p ∈ H, 0 ≤ p.2 ∧ p.2 < kl.length) ∧
      v = .tup [.ref σ.length, .ref (σ.length + 1)] ∧ s = σ ++ [.dict (inD W), .dict (inD H)] := by
    rintro ρ' σ' ⟨hx, e1, e2, e3, e4, W, H, f1, f2, f3, f4, f5, f6, f7, f8⟩
    simp (maxDischargeDepth := 9) only [List.zip_cons_cons, List.zip_nil_right, List.zip_nil_left, bindE, wS_seq_e, wS_assign_e, wS_if_e, wS_nil_e, wS_ret_e, thenS, wA_bin_e, wA_int_e, wA_bool_e, wA_none_e, wA_cmp_e, wA_bcmp_e, wA_bval_e, wA_bnot_e, wA_not_e, wA_neg_e, wA_band_nil_e, wA_band_cons_e, wA_bor_nil_e, wA_bor_cons_e, wA_vand1_e, wA_vand_e, wA_here_e, wA_there_e, str_eq_iff_e, String.reduceEq, not_false_eq_true, wA_list_e, wA_tup_e, wA_args_nil_e, wA_args_cons_e, wA_call_e, wA_sub_e, wA_isi_e, w2_add_e, w2_sub_e, w2_mod_e, w2_div_e, w2_mul_e, w2_pow_e, wC_lt_e, wC_gt_e, wC_ge_e, wC_eqi_e, wC_eqb_e, List.length_nil, List.length_cons, List.length_map, exp_int, exp_bool, exp_none, aTruth, Option.some.injEq, exL_e, Int.reduceLE, Int.reduceLT, Int.reduceEq, Int.reduceNe, ne_eq, and_true, true_and, Nat.reduceLeDiff, Nat.reduceAdd, Int.reduceNeg, Nat.reduceLT, and_self, nzl_e, wA_name e3, wA_name e4]
    exact ⟨hx, _, _, expT2 (Nat.le_succ _) (Nat.le_refl _) (by exact ar_334) f2 f1 (closed_intD _ _) (closed_intD _ _), W, H, f3, f4, f5, f7, f8, rfl, rfl⟩
  refine wS_cut (GsI σ i j B kl kl.length) ?_ fin
  refine wS_forN kl.length (by exact ar_325 hkn) (GsI σ i j B kl) ?_ ?_ (fun ρ' σ' hh => ⟨rfl, hh⟩)
  · have h1 := app_get (τ := [.dict []]) (app_get (τ := [.dict []]) hj)
    simp (maxDischargeDepth := 9) only [List.zip_cons_cons, List.zip_nil_right, List.zip_nil_left, bindE, wS_seq_e, wS_assign_e, wS_if_e, wS_nil_e, wS_ret_e, thenS, wA_bin_e, wA_int_e, wA_bool_e, wA_none_e, wA_cmp_e, wA_bcmp_e, wA_bval_e, wA_bnot_e, wA_not_e, wA_neg_e, wA_band_nil_e, wA_band_cons_e, wA_bor_nil_e, wA_bor_cons_e, wA_vand1_e, wA_vand_e, wA_here_e, wA_there_e, str_eq_iff_e, String.reduceEq, not_false_eq_true, wA_list_e, wA_tup_e, wA_args_nil_e, wA_args_cons_e, wA_call_e, wA_sub_e, wA_isi_e, w2_add_e, w2_sub_e, w2_mod_e, w2_div_e, w2_mul_e, w2_pow_e, wC_lt_e, wC_gt_e, wC_ge_e, wC_eqi_e, wC_eqb_e, List.length_nil, List.length_cons, List.length_map, exp_int, exp_bool, exp_none, aTruth, Option.some.injEq, exL_e, Int.reduceLE, Int.reduceLT, Int.reduceEq, Int.reduceNe, ne_eq, and_true, true_and, Nat.reduceLeDiff, Nat.reduceAdd, Int.reduceNeg, Nat.reduceLT, and_self, nzl_e, wF_len h1, wF_range1_e]
    refine ⟨ext_app ext_self, by (first | ((repeat (first | exact upd_same | refine (upd_ne rfl).trans ?_)); done) | simp [upd, str_eq_iff]), by (first | ((repeat (first | exact upd_same | refine (upd_ne rfl).trans ?_)); done) | simp [upd, str_eq_iff]), by (first | ((repeat (first | exact upd_same | refine (upd_ne rfl).trans ?_)); done) | simp [upd, str_eq_iff]), by (first | ((repeat (first | exact upd_same | refine (upd_ne rfl).trans ?_)); done) | simp [upd, str_eq_iff]), [], [], ?_, ?_, by simp, by simp, by simp, by simp, by simp, by simp⟩
    · exact app_get new_get
    · have := new_get (σ := σ ++ [AO.dict []]) (o := .dict [])
      rw [List.length_append] at this
      exact this
  · rintro k ρ' σ' hk ⟨hx, e1, e2, e3, e4, W, H, f1, f2, f3, f4, f5, f6, f7, f8⟩
    have hit : (kl.map AV.int)[(k : Int).toNat]? = some (.int kl[k]) := by simp [hk]
    have hb := hkl kl[k] (by simp)
    have c1 : (0 : Int) ≤ 100 + (k : Int) := by exact ar_335
    have c2 : 100 + (k : Int) < 1000000 := by exact ar_336 hkn hk
    have c3 : smallI 37 := by unfold smallI; omega
    refine wS_cut (fun ρ1 σ1 => ρ1 = upd (upd ρ' "_law_room" (.int k)) "_law_more" (.int (cellV sc (100 + k))) ∧ σ1 = σ') ?_ ?_
    · simp (maxDischargeDepth := 9) only [List.zip_cons_cons, List.zip_nil_right, List.zip_nil_left, bindE, wS_seq_e, wS_assign_e, wS_if_e, wS_nil_e, wS_ret_e, thenS, wA_bin_e, wA_int_e, wA_bool_e, wA_none_e, wA_cmp_e, wA_bcmp_e, wA_bval_e, wA_bnot_e, wA_not_e, wA_neg_e, wA_band_nil_e, wA_band_cons_e, wA_bor_nil_e, wA_bor_cons_e, wA_vand1_e, wA_vand_e, wA_here_e, wA_there_e, str_eq_iff_e, String.reduceEq, not_false_eq_true, wA_list_e, wA_tup_e, wA_args_nil_e, wA_args_cons_e, wA_call_e, wA_sub_e, wA_isi_e, w2_add_e, w2_sub_e, w2_mod_e, w2_div_e, w2_mul_e, w2_pow_e, wC_lt_e, wC_gt_e, wC_ge_e, wC_eqi_e, wC_eqb_e, List.length_nil, List.length_cons, List.length_map, exp_int, exp_bool, exp_none, aTruth, Option.some.injEq, exL_e, Int.reduceLE, Int.reduceLT, Int.reduceEq, Int.reduceNe, ne_eq, and_true, true_and, Nat.reduceLeDiff, Nat.reduceAdd, Int.reduceNeg, Nat.reduceLT, and_self, nzl_e, cell, ext_refl_e, ext_app_e, hx, wA_name e1, c1, c2]
    rintro _ σ' ⟨rfl, rfl⟩
    refine wS_cut (fun ρ1 σ1 => ρ1 = upd (upd (upd ρ' "_law_room" (.int k)) "_law_more" (.int (cellV sc (100 + k)))) "_law_number" (.int (((k : Int) * 37 + cellV sc 4).fmod 101 + q)) ∧ Ext σ' σ1) ?_ ?_
    · simp (maxDischargeDepth := 9) only [List.zip_cons_cons, List.zip_nil_right, List.zip_nil_left, bindE, wS_seq_e, wS_assign_e, wS_if_e, wS_nil_e, wS_ret_e, thenS, wA_bin_e, wA_int_e, wA_bool_e, wA_none_e, wA_cmp_e, wA_bcmp_e, wA_bval_e, wA_bnot_e, wA_not_e, wA_neg_e, wA_band_nil_e, wA_band_cons_e, wA_bor_nil_e, wA_bor_cons_e, wA_vand1_e, wA_vand_e, wA_here_e, wA_there_e, str_eq_iff_e, String.reduceEq, not_false_eq_true, wA_list_e, wA_tup_e, wA_args_nil_e, wA_args_cons_e, wA_call_e, wA_sub_e, wA_isi_e, w2_add_e, w2_sub_e, w2_mod_e, w2_div_e, w2_mul_e, w2_pow_e, wC_lt_e, wC_gt_e, wC_ge_e, wC_eqi_e, wC_eqb_e, List.length_nil, List.length_cons, List.length_map, exp_int, exp_bool, exp_none, aTruth, Option.some.injEq, exL_e, Int.reduceLE, Int.reduceLT, Int.reduceEq, Int.reduceNe, ne_eq, and_true, true_and, Nat.reduceLeDiff, Nat.reduceAdd, Int.reduceNeg, Nat.reduceLT, and_self, nzl_e, cell, ext_refl_e, ext_app_e, hx, wA_name e1, c3, or_true, AV.int.injEq]
      rw [w2_item new_get hr.1 hq]
      simp (maxDischargeDepth := 9) only [List.zip_cons_cons, List.zip_nil_right, List.zip_nil_left, bindE, wS_seq_e, wS_assign_e, wS_if_e, wS_nil_e, wS_ret_e, thenS, wA_bin_e, wA_int_e, wA_bool_e, wA_none_e, wA_cmp_e, wA_bcmp_e, wA_bval_e, wA_bnot_e, wA_not_e, wA_neg_e, wA_band_nil_e, wA_band_cons_e, wA_bor_nil_e, wA_bor_cons_e, wA_vand1_e, wA_vand_e, wA_here_e, wA_there_e, str_eq_iff_e, String.reduceEq, not_false_eq_true, wA_list_e, wA_tup_e, wA_args_nil_e, wA_args_cons_e, wA_call_e, wA_sub_e, wA_isi_e, w2_add_e, w2_sub_e, w2_mod_e, w2_div_e, w2_mul_e, w2_pow_e, wC_lt_e, wC_gt_e, wC_ge_e, wC_eqi_e, wC_eqb_e, List.length_nil, List.length_cons, List.length_map, exp_int, exp_bool, exp_none, aTruth, Option.some.injEq, exL_e, Int.reduceLE, Int.reduceLT, Int.reduceEq, Int.reduceNe, ne_eq, and_true, true_and, Nat.reduceLeDiff, Nat.reduceAdd, Int.reduceNeg, Nat.reduceLT, and_self, nzl_e]
      exact ⟨.inr c3, ext_self⟩
    rintro _ σ1 ⟨rfl, hx1⟩
    generalize ((k : Int) * 37 + cellV sc 4).fmod 101 + q = num
    generalize hmore : cellV sc (100 + k) = more
    have hm0 : 0 ≤ more := by rw [← hmore]; exact cellV_nonneg _ _
    have g1 := hx1.get f1
    have g2 := hx1.get f2
    have hx2 := hx.trans hx1
    have e1' : upd (upd (upd ρ' "_law_room" (.int k)) "_law_more" (.int more)) "_law_number" (.int num) "_law_script" = some (.ref i) := by (first | ((repeat (first | exact e1 | refine (upd_ne rfl).trans ?_)); done) | simpa [upd, str_eq_iff] using e1)
    have e2' : upd (upd (upd ρ' "_law_room" (.int k)) "_law_more" (.int more)) "_law_number" (.int num) "_law_kinds_here" = some (.ref j) := by (first | ((repeat (first | exact e2 | refine (upd_ne rfl).trans ?_)); done) | simpa [upd, str_eq_iff] using e2)
    have e3' : upd (upd (upd ρ' "_law_room" (.int k)) "_law_more" (.int more)) "_law_number" (.int num) "_law_ahead" = some (.ref σ.length) := by (first | ((repeat (first | exact e3 | refine (upd_ne rfl).trans ?_)); done) | simpa [upd, str_eq_iff] using e3)
    have e4' : upd (upd (upd ρ' "_law_room" (.int k)) "_law_more" (.int more)) "_law_number" (.int num) "_law_wants" = some (.ref (σ.length + 1)) := by (first | ((repeat (first | exact e4 | refine (upd_ne rfl).trans ?_)); done) | simpa [upd, str_eq_iff] using e4)
    have a1 : upd (upd (upd ρ' "_law_room" (.int k)) "_law_more" (.int more)) "_law_number" (.int num) "_law_number" = some (.int num) := upd_same
    have a2 : upd (upd (upd ρ' "_law_room" (.int k)) "_law_more" (.int more)) "_law_number" (.int num) "_law_room" = some (.int k) := by (first | ((repeat (first | exact upd_same | refine (upd_ne rfl).trans ?_)); done) | simp [upd, str_eq_iff])
    have a3 : upd (upd (upd ρ' "_law_room" (.int k)) "_law_more" (.int more)) "_law_number" (.int num) "_law_more" = some (.int more) := by (first | ((repeat (first | exact upd_same | refine (upd_ne rfl).trans ?_)); done) | simp [upd, str_eq_iff])
    generalize upd (upd (upd ρ' "_law_room" (.int k)) "_law_more" (.int more)) "_law_number" (.int num) = ρ2 at e1' e2' e3' e4' a1 a2 a3
    rw [wS_seq]
    refine wS_if_of (fun _ σ2 => σ2 = σ1) ?_ ?_ ?_
    · simp (maxDischargeDepth := 9) only [List.zip_cons_cons, List.zip_nil_right, List.zip_nil_left, bindE, wS_seq_e, wS_assign_e, wS_if_e, wS_nil_e, wS_ret_e, thenS, wA_bin_e, wA_int_e, wA_bool_e, wA_none_e, wA_cmp_e, wA_bcmp_e, wA_bval_e, wA_bnot_e, wA_not_e, wA_neg_e, wA_band_nil_e, wA_band_cons_e, wA_bor_nil_e, wA_bor_cons_e, wA_vand1_e, wA_vand_e, wA_here_e, wA_there_e, str_eq_iff_e, String.reduceEq, not_false_eq_true, wA_list_e, wA_tup_e, wA_args_nil_e, wA_args_cons_e, wA_call_e, wA_sub_e, wA_isi_e, w2_add_e, w2_sub_e, w2_mod_e, w2_div_e, w2_mul_e, w2_pow_e, wC_lt_e, wC_gt_e, wC_ge_e, wC_eqi_e, wC_eqb_e, List.length_nil, List.length_cons, List.length_map, exp_int, exp_bool, exp_none, aTruth, Option.some.injEq, exL_e, Int.reduceLE, Int.reduceLT, Int.reduceEq, Int.reduceNe, ne_eq, and_true, true_and, Nat.reduceLeDiff, Nat.reduceAdd, Int.reduceNeg, Nat.reduceLT, and_self, nzl_e, wA_name a3]
    · rintro σ1 rfl
      obtain ⟨H', eH, nH, lH, vH⟩ := put_inD (W := H) num k f4
      have vH' : ∀ p ∈ H', 0 ≤ p.2 ∧ p.2 < kl.length := fun p hp => by
        rcases vH p hp with hp | hp
        · exact f8 p hp
        · rw [hp]; exact ar_338 hk
      refine wS_cut (fun ρ3 σ3 => ρ3 = ρ2 ∧ σ3 = σ1.set σ.length (.dict (inD H'))) ?_ ?_
      · refine wS_setItemD ?_
        simp (maxDischargeDepth := 9) only [List.zip_cons_cons, List.zip_nil_right, List.zip_nil_left, bindE, wS_seq_e, wS_assign_e, wS_if_e, wS_nil_e, wS_ret_e, thenS, wA_bin_e, wA_int_e, wA_bool_e, wA_none_e, wA_cmp_e, wA_bcmp_e, wA_bval_e, wA_bnot_e, wA_not_e, wA_neg_e, wA_band_nil_e, wA_band_cons_e, wA_bor_nil_e, wA_bor_cons_e, wA_vand1_e, wA_vand_e, wA_here_e, wA_there_e, str_eq_iff_e, String.reduceEq, not_false_eq_true, wA_list_e, wA_tup_e, wA_args_nil_e, wA_args_cons_e, wA_call_e, wA_sub_e, wA_isi_e, w2_add_e, w2_sub_e, w2_mod_e, w2_div_e, w2_mul_e, w2_pow_e, wC_lt_e, wC_gt_e, wC_ge_e, wC_eqi_e, wC_eqb_e, List.length_nil, List.length_cons, List.length_map, exp_int, exp_bool, exp_none, aTruth, Option.some.injEq, exL_e, Int.reduceLE, Int.reduceLT, Int.reduceEq, Int.reduceNe, ne_eq, and_true, true_and, Nat.reduceLeDiff, Nat.reduceAdd, Int.reduceNeg, Nat.reduceLT, and_self, nzl_e, wA_name a1, wA_name a2]
        exact ⟨σ.length, e3', inD H, num, g1, rfl, Nat.le_refl _, by rw [inD_len]; exact ar_330 hkn hk f6, by rw [eH]⟩
      rintro ρ2 _ ⟨rfl, rfl⟩
      have h1 := set_get (o := .dict (inD H')) g1
      have h2 := set_get_ne (o' := .dict (inD H')) g2 (show σ.length ≠ σ.length + 1 by exact ar_339)
      have hx3 : Ext σ (σ1.set σ.length (.dict (inD H'))) := hx2.set (Nat.le_refl _)
      generalize σ1.set σ.length (.dict (inD H')) = σ3 at h1 h2 hx3
      have hj3 := hx3.get hj
      rw [wS_seq]
      refine wS_if_of (fun _ σ2 => σ2 = σ3) ?_ ?_ ?_
      · simp (maxDischargeDepth := 9) only [List.zip_cons_cons, List.zip_nil_right, List.zip_nil_left, bindE, wS_seq_e, wS_assign_e, wS_if_e, wS_nil_e, wS_ret_e, thenS, wA_bin_e, wA_int_e, wA_bool_e, wA_none_e, wA_cmp_e, wA_bcmp_e, wA_bval_e, wA_bnot_e, wA_not_e, wA_neg_e, wA_band_nil_e, wA_band_cons_e, wA_bor_nil_e, wA_bor_cons_e, wA_vand1_e, wA_vand_e, wA_here_e, wA_there_e, str_eq_iff_e, String.reduceEq, not_false_eq_true, wA_list_e, wA_tup_e, wA_args_nil_e, wA_args_cons_e, wA_call_e, wA_sub_e, wA_isi_e, w2_add_e, w2_sub_e, w2_mod_e, w2_div_e, w2_mul_e, w2_pow_e, wC_lt_e, wC_gt_e, wC_ge_e, wC_eqi_e, wC_eqb_e, List.length_nil, List.length_cons, List.length_map, exp_int, exp_bool, exp_none, aTruth, Option.some.injEq, exL_e, Int.reduceLE, Int.reduceLT, Int.reduceEq, Int.reduceNe, ne_eq, and_true, true_and, Nat.reduceLeDiff, Nat.reduceAdd, Int.reduceNeg, Nat.reduceLT, and_self, nzl_e, wA_name a3]
      · rintro σ3 rfl
        have nz : ¬ kl[k] + 1 = 0 := by exact ar_340 hb
        have hv := fmod_lt (more.fdiv 25) (b := kl[k] + 1) (by exact ar_341 hb)
        generalize hval : (more.fdiv 25).fmod (kl[k] + 1) = val at hv
        obtain ⟨W', eW, nW, lW, vW⟩ := put_inD (W := W) num val f3
        have vW' : ∀ p ∈ W', 0 ≤ p.2 ∧ p.2 < B := fun p hp => by
          rcases vW p hp with hp | hp
          · exact f7 p hp
          · rw [hp]; exact ar_342 hb hv
        have lW' : W'.length ≤ 2 * k + 1 := by exact ar_343 f5 lW
        refine wS_cut (fun ρ3 σ4 => ρ3 = ρ2 ∧ σ4 = σ3.set (σ.length + 1) (.dict (inD W'))) ?_ ?_
        · refine wS_setItemD ?_
          simp (maxDischargeDepth := 9) only [List.zip_cons_cons, List.zip_nil_right, List.zip_nil_left, bindE, wS_seq_e, wS_assign_e, wS_if_e, wS_nil_e, wS_ret_e, thenS, wA_bin_e, wA_int_e, wA_bool_e, wA_none_e, wA_cmp_e, wA_bcmp_e, wA_bval_e, wA_bnot_e, wA_not_e, wA_neg_e, wA_band_nil_e, wA_band_cons_e, wA_bor_nil_e, wA_bor_cons_e, wA_vand1_e, wA_vand_e, wA_here_e, wA_there_e, str_eq_iff_e, String.reduceEq, not_false_eq_true, wA_list_e, wA_tup_e, wA_args_nil_e, wA_args_cons_e, wA_call_e, wA_sub_e, wA_isi_e, w2_add_e, w2_sub_e, w2_mod_e, w2_div_e, w2_mul_e, w2_pow_e, wC_lt_e, wC_gt_e, wC_ge_e, wC_eqi_e, wC_eqb_e, List.length_nil, List.length_cons, List.length_map, exp_int, exp_bool, exp_none, aTruth, Option.some.injEq, exL_e, Int.reduceLE, Int.reduceLT, Int.reduceEq, Int.reduceNe, ne_eq, and_true, true_and, Nat.reduceLeDiff, Nat.reduceAdd, Int.reduceNeg, Nat.reduceLT, and_self, nzl_e, wA_name a1, wA_name a2, wA_name a3, wA_name e2', w2_item hj3 (Int.natCast_nonneg _) hit, nz, hval]
          exact ⟨σ.length + 1, e4', inD W, num, h2, rfl, Nat.le_succ _, by rw [inD_len]; exact ar_344 hkn hk f5, by rw [eW]⟩
        rintro ρ2 _ ⟨rfl, rfl⟩
        have k1 := set_get_ne (o' := .dict (inD W')) h1 (show σ.length + 1 ≠ σ.length by exact ar_334)
        have k2 := set_get (o := .dict (inD W')) h2
        have hx4 : Ext σ (σ3.set (σ.length + 1) (.dict (inD W'))) := hx3.set (Nat.le_succ _)
        generalize σ3.set (σ.length + 1) (.dict (inD W')) = σ4 at k1 k2 hx4
        rw [wS_seq]
        refine wS_if_of (fun _ σ2 => σ2 = σ4) ?_ ?_ ?_
        · simp (maxDischargeDepth := 9) only [List.zip_cons_cons, List.zip_nil_right, List.zip_nil_left, bindE, wS_seq_e, wS_assign_e, wS_if_e, wS_nil_e, wS_ret_e, thenS, wA_bin_e, wA_int_e, wA_bool_e, wA_none_e, wA_cmp_e, wA_bcmp_e, wA_bval_e, wA_bnot_e, wA_not_e, wA_neg_e, wA_band_nil_e, wA_band_cons_e, wA_bor_nil_e, wA_bor_cons_e, wA_vand1_e, wA_vand_e, wA_here_e, wA_there_e, str_eq_iff_e, String.reduceEq, not_false_eq_true, wA_list_e, wA_tup_e, wA_args_nil_e, wA_args_cons_e, wA_call_e, wA_sub_e, wA_isi_e, w2_add_e, w2_sub_e, w2_mod_e, w2_div_e, w2_mul_e, w2_pow_e, wC_lt_e, wC_gt_e, wC_ge_e, wC_eqi_e, wC_eqb_e, List.length_nil, List.length_cons, List.length_map, exp_int, exp_bool, exp_none, aTruth, Option.some.injEq, exL_e, Int.reduceLE, Int.reduceLT, Int.reduceEq, Int.reduceNe, ne_eq, and_true, true_and, Nat.reduceLeDiff, Nat.reduceAdd, Int.reduceNeg, Nat.reduceLT, and_self, nzl_e, wA_name a3, wA_name e1', cell, hx4]
          simp only [ite_self]
        · rintro σ4 rfl
          obtain ⟨W2, eW2, nW2, lW2, vW2⟩ := put_inD (W := W') num 0 nW
          have vW2' : ∀ p ∈ W2, 0 ≤ p.2 ∧ p.2 < B := fun p hp => by
            rcases vW2 p hp with hp | hp
            · exact vW' p hp
            · rw [hp]; exact ar_345 hB0
          refine wS_cut (fun ρ3 σ5 => ρ3 = ρ2 ∧ σ5 = σ4.set (σ.length + 1) (.dict (inD W2))) ?_ ?_
          · refine wS_setItemD ?_
            simp (maxDischargeDepth := 9) only [List.zip_cons_cons, List.zip_nil_right, List.zip_nil_left, bindE, wS_seq_e, wS_assign_e, wS_if_e, wS_nil_e, wS_ret_e, thenS, wA_bin_e, wA_int_e, wA_bool_e, wA_none_e, wA_cmp_e, wA_bcmp_e, wA_bval_e, wA_bnot_e, wA_not_e, wA_neg_e, wA_band_nil_e, wA_band_cons_e, wA_bor_nil_e, wA_bor_cons_e, wA_vand1_e, wA_vand_e, wA_here_e, wA_there_e, str_eq_iff_e, String.reduceEq, not_false_eq_true, wA_list_e, wA_tup_e, wA_args_nil_e, wA_args_cons_e, wA_call_e, wA_sub_e, wA_isi_e, w2_add_e, w2_sub_e, w2_mod_e, w2_div_e, w2_mul_e, w2_pow_e, wC_lt_e, wC_gt_e, wC_ge_e, wC_eqi_e, wC_eqb_e, List.length_nil, List.length_cons, List.length_map, exp_int, exp_bool, exp_none, aTruth, Option.some.injEq, exL_e, Int.reduceLE, Int.reduceLT, Int.reduceEq, Int.reduceNe, ne_eq, and_true, true_and, Nat.reduceLeDiff, Nat.reduceAdd, Int.reduceNeg, Nat.reduceLT, and_self, nzl_e, wA_name a1]
            exact ⟨σ.length + 1, e4', inD W', num, k2, rfl, Nat.le_succ _, by rw [inD_len]; exact ar_346 hkn hk f5 lW, by rw [eW2]⟩
          rintro ρ2 _ ⟨rfl, rfl⟩
          simp only [wS_nil_e, thenS]
          exact ⟨hx4.set (Nat.le_succ _), e1', e2', e3', e4', W2, H', set_get_ne k1 (show σ.length + 1 ≠ σ.length by exact ar_334), set_get k2, nW2, nH, by exact ar_347 f5 lW lW2, by exact ar_46 lH f6, vW2', vH'⟩
        · rintro _ rfl
          simp only [wS_nil_e, thenS]
          exact ⟨hx4, e1', e2', e3', e4', W', H', k1, k2, nW, nH, by exact ar_348 f5 lW, by exact ar_46 lH f6, vW', vH'⟩
      · rintro _ rfl
        simp only [wS_nil_e, thenS]
        exact ⟨hx3, e1', e2', e3', e4', W, H', h1, h2, f3, nH, by exact Nat.le_trans f5 (Nat.le_add_right _ _), by exact ar_46 lH f6, f7, vH'⟩
    · rintro _ rfl
      simp only [wS_nil_e, thenS]
      exact ⟨hx2, e1', e2', e3', e4', W, H, g1, g2, f3, f4, by exact Nat.le_trans f5 (Nat.le_add_right _ _), by exact Nat.le_add_right_of_le f6, f7, f8⟩
end Inn
end
section
set_option maxRecDepth 10000
set_option linter.unusedVariables false
set_option linter.unusedSimpArgs false
namespace Inn
open PySem PySem.W
structure Night (ns rs : List Int) (W H : List (Int × Int)) : Prop where
  house : houseV ns = true
  rooms : ∀ r ∈ rs, 0 ≤ r ∧ r < ns.sum
  roomsLe : rs.length ≤ 54
  wN : (W.map (·.1)).Nodup
  wL : W.length < 128
  wV : ∀ p ∈ W, 0 ≤ p.2 ∧ p.2 < ns.length
  hN : (H.map (·.1)).Nodup
  hV : ∀ p ∈ H, 0 ≤ p.2 ∧ p.2 < ns.sum
theorem kindsO_mem {x : Int} : ∀ {l : List Int} {o : Nat}, x ∈ kindsO l o → (o : Int) ≤ x ∧ x < o + l.length
  | [], o, h => by simp [kindsO] at h
  | n :: r, o, h => by
    simp only [kindsO, List.mem_append] at h
    rcases h with h | h
    · have := (List.mem_replicate.mp h).2
      subst this; simp; exact ar_350
    · have := kindsO_mem h
      simp only [List.length_cons]; push_cast at this ⊢; exact ar_351 this
structure NI (σ : Store) (i : Nat) (ns rs : List Int) (H : List (Int × Int)) (pr : Int) (k : Nat) (ρ' : AEnv) (σ' : Store) : Prop where
  f0 : Ext σ σ'
  f1 : ρ' "_law_script" = some (.ref i)
  f2 : ρ' "_law_counts" = some (.ref σ.length)
  f3 : ρ' "_law_rooms" = some (.ref (σ.length + 2))
  f4 : ρ' "_law_wants" = some (.ref (σ.length + 3))
  f5 : ρ' "_law_ahead" = some (.ref (σ.length + 3 + 1))
  f6 : ρ' "_law_pressed" = some (.int pr)
  f7 : σ'[σ.length]? = some (.list (ns.map .int))
  f8 : σ'[σ.length + 2]? = some (.list (rs.map .int))
  f9 : σ'[σ.length + 3 + 1]? = some (.dict (inD H))
  f10 : ∃ V : List (Int × Int), σ'[σ.length + 3]? = some (.dict (inD V)) ∧ (V.map (·.1)).Nodup ∧ V.length ≤ 108 + k ∧ ∀ p ∈ V, 0 ≤ p.2 ∧ p.2 < ns.length
theorem night_ok {σ : Store} {i : Nat} {sc : List Int} (h : σ[i]? = some (.list (sc.map .int))) (hl : sc.length ≤ 1000) :
    wF sp_law_night_by [.ref i] σ fun v s => ∃ ns rs W H, Night ns rs W H ∧ v = .tup [.ref σ.length, .ref (σ.length + 1), .ref (σ.length + 2), .ref (σ.length + 3)] ∧
      s = σ ++ [.list (ns.map .int), .list (rs.map .int), .dict (inD W), .dict (inD H)] := by
  have cell : ∀ {σ' : Store} {k : Int} {Q}, Ext σ σ' → 0 ≤ k → k < 1000000 → (wF sp_law_cell [.ref i, .int k] σ' Q ↔ Q (.int (cellV sc k)) σ') := fun hτ h0 h1 => wF_cell (hτ.get h) h0 h1 hl
  obtain ⟨_, _, e0, ns, hg, rfl, rfl⟩ := house_ok h hl
  obtain ⟨⟨g1, g2⟩, g3⟩ := house_iff.1 hg
  have hn : ∀ n ∈ ns, 0 ≤ n := fun n hn => (g3 n hn).1
  have hsum := sum_le g3
  have hklen := kindsO_len ns 0 hn
  have hkm : ∀ x ∈ kindsO ns 0, 0 ≤ x ∧ x < 1000 := fun x hx => by have := kindsO_mem hx; push_cast at this; exact ar_352 this g2
  have e1 := kinds_eq (new_get (σ := σ) (o := .list (ns.map .int))) hg
  have x1 : Ext σ (σ ++ [AO.list (ns.map .int)]) := ext_self
  have a1 : (σ ++ [AO.list (ns.map .int)])[σ.length]? = some (.list (ns.map .int)) := new_get
  have l1 : (σ ++ [AO.list (ns.map .int)]).length = σ.length + 1 := by simp
  generalize σ ++ [AO.list (ns.map .int)] = σ1 at e0 e1 x1 a1 l1
  have x2 : Ext σ1 (σ1 ++ [AO.list ((kindsO ns 0).map .int)]) := ext_self
  have a2 : (σ1 ++ [AO.list ((kindsO ns 0).map .int)])[σ1.length]? = some (.list ((kindsO ns 0).map .int)) := new_get
  have l2 : (σ1 ++ [AO.list ((kindsO ns 0).map .int)]).length = σ.length + 2 := by simp [l1]
  generalize σ1 ++ [AO.list ((kindsO ns 0).map .int)] = σ2 at e1 x2 a2 l2
  obtain ⟨_, _, e2, rs, r1, r2, rfl, rfl⟩ := rooms_ok ((x1.trans x2).get h) hl a2 hkm (by exact ar_353 hsum hklen g2)
  have hkb : ∀ x ∈ kindsO ns 0, 0 ≤ x ∧ x < ns.length := fun x hx => by have := kindsO_mem hx; push_cast at this; exact ar_354 this
  obtain ⟨_, _, e3, W, H, w1, w2, w3, w4, w5, rfl, rfl⟩ := guests_ok (B := ns.length) ((x1.trans (x2.trans (ext_self (τ := [AO.list (rs.map .int)])))).get h) hl ((ext_self (τ := [AO.list (rs.map .int)])).get a2) hkb (by exact ar_355 g2) (by exact ar_356 g1) (by exact ar_353 hsum hklen g2)
  have x3 : Ext σ2 (σ2 ++ [AO.list (rs.map .int)]) := ext_self
  have a3 : (σ2 ++ [AO.list (rs.map .int)])[σ2.length]? = some (.list (rs.map .int)) := new_get
  have l3 : (σ2 ++ [AO.list (rs.map .int)]).length = σ.length + 3 := by simp [l2]
  generalize σ2 ++ [AO.list (rs.map .int)] = σ3 at e2 e3 x3 a3 l3
  have x4 : Ext σ3 (σ3 ++ [AO.dict (inD W), .dict (inD H)]) := ext_self
  have a4 : (σ3 ++ [AO.dict (inD W), .dict (inD H)])[σ3.length]? = some (.dict (inD W)) := by simp
  have a5 : (σ3 ++ [AO.dict (inD W), .dict (inD H)])[σ3.length + 1]? = some (.dict (inD H)) := by simp
  generalize σ3 ++ [AO.dict (inD W), .dict (inD H)] = σ4 at e3 x4 a4 a5
  have b1 := ((x2.trans x3).trans x4).get a1
  have b3 := x4.get a3
  have xx : Ext σ σ4 := x1.trans ((x2.trans x3).trans x4)
  rw [l1] at e1 e2 e3
  rw [l2] at e2 b3
  rw [l3] at e3 a4 a5
  clear x1 x2 x3 x4 a1 a2 a3 l1 l2 l3
  have hp := fmod_lt (cellV sc 9) (b := 2) (by decide)
  have hq6 := fmod_lt (cellV sc 6) (b := 3) (by decide)
  refine wF_fn rfl ?_
  simp (maxDischargeDepth := 9) only [List.zip_cons_cons, List.zip_nil_right, List.zip_nil_left, bindE, wS_seq_e, wS_assign_e, wS_if_e, wS_nil_e, wS_ret_e, thenS, wA_bin_e, wA_int_e, wA_bool_e, wA_none_e, wA_cmp_e, wA_bcmp_e, wA_bval_e, wA_bnot_e, wA_not_e, wA_neg_e, wA_band_nil_e, wA_band_cons_e, wA_bor_nil_e, wA_bor_cons_e, wA_vand1_e, wA_vand_e, wA_here_e, wA_there_e, str_eq_iff_e, String.reduceEq, not_false_eq_true, wA_list_e, wA_tup_e, wA_args_nil_e, wA_args_cons_e, wA_call_e, wA_sub_e, wA_isi_e, w2_add_e, w2_sub_e, w2_mod_e, w2_div_e, w2_mul_e, w2_pow_e, wC_lt_e, wC_gt_e, wC_ge_e, wC_eqi_e, wC_eqb_e, List.length_nil, List.length_cons, List.length_map, exp_int, exp_bool, exp_none, aTruth, Option.some.injEq, exL_e, Int.reduceLE, Int.reduceLT, Int.reduceEq, Int.reduceNe, ne_eq, and_true, true_and, Nat.reduceLeDiff, Nat.reduceAdd, Int.reduceNeg, Nat.reduceLT, and_self, nzl_e, wF_eq e0, wF_eq e1, wF_eq e2, wF_eq e3, w2_pair0, w2_pair1, cell, xx]
  generalize hpr : (cellV sc 9).fmod 2 = pr at hp
  obtain ⟨q, hq, eq⟩ : ∃ q : Int, (0 < q ∧ q ≤ 12) ∧ ([.int 3, .int 6, .int (3 + 9 * pr)] : List AV)[((cellV sc 6).fmod 3).toNat]? = some (.int q) := by
    generalize (cellV sc 6).fmod 3 = z at hq6
    have : z = 0 ∨ z = 1 ∨ z = 2 := by exact ar_357 hq6
    rcases this with rfl | rfl | rfl
    · exact ⟨3, by decide, rfl⟩
    · exact ⟨6, by decide, rfl⟩
    · exact ⟨3 + 9 * pr, by exact ar_358 hp, rfl⟩
  have hN := fmod_lt (cellV sc 5) (b := q) (by exact ar_359 hq)
  have c9 : smallI 9 := by unfold smallI; omega
  have c7 : smallI 7 := by unfold smallI; omega
  have nq : ¬ q = 0 := by exact ar_362 hq
  refine wS_forN ((cellV sc 5).fmod q).toNat (by exact ar_363 hq hN) (NI σ i ns rs H pr) ?_ ?_ ?_
  · simp (maxDischargeDepth := 9) only [List.zip_cons_cons, List.zip_nil_right, List.zip_nil_left, bindE, wS_seq_e, wS_assign_e, wS_if_e, wS_nil_e, wS_ret_e, thenS, wA_bin_e, wA_int_e, wA_bool_e, wA_none_e, wA_cmp_e, wA_bcmp_e, wA_bval_e, wA_bnot_e, wA_not_e, wA_neg_e, wA_band_nil_e, wA_band_cons_e, wA_bor_nil_e, wA_bor_cons_e, wA_vand1_e, wA_vand_e, wA_here_e, wA_there_e, str_eq_iff_e, String.reduceEq, not_false_eq_true, wA_list_e, wA_tup_e, wA_args_nil_e, wA_args_cons_e, wA_call_e, wA_sub_e, wA_isi_e, w2_add_e, w2_sub_e, w2_mod_e, w2_div_e, w2_mul_e, w2_pow_e, wC_lt_e, wC_gt_e, wC_ge_e, wC_eqi_e, wC_eqb_e, List.length_nil, List.length_cons, List.length_map, exp_int, exp_bool, exp_none, aTruth, Option.some.injEq, exL_e, Int.reduceLE, Int.reduceLT, Int.reduceEq, Int.reduceNe, ne_eq, and_true, true_and, Nat.reduceLeDiff, Nat.reduceAdd, Int.reduceNeg, Nat.reduceLT, and_self, nzl_e, cell, xx, ext_app_e]
    rw [w2_item new_get hq6.1 eq]
    simp (maxDischargeDepth := 9) only [List.zip_cons_cons, List.zip_nil_right, List.zip_nil_left, bindE, wS_seq_e, wS_assign_e, wS_if_e, wS_nil_e, wS_ret_e, thenS, wA_bin_e, wA_int_e, wA_bool_e, wA_none_e, wA_cmp_e, wA_bcmp_e, wA_bval_e, wA_bnot_e, wA_not_e, wA_neg_e, wA_band_nil_e, wA_band_cons_e, wA_bor_nil_e, wA_bor_cons_e, wA_vand1_e, wA_vand_e, wA_here_e, wA_there_e, str_eq_iff_e, String.reduceEq, not_false_eq_true, wA_list_e, wA_tup_e, wA_args_nil_e, wA_args_cons_e, wA_call_e, wA_sub_e, wA_isi_e, w2_add_e, w2_sub_e, w2_mod_e, w2_div_e, w2_mul_e, w2_pow_e, wC_lt_e, wC_gt_e, wC_ge_e, wC_eqi_e, wC_eqb_e, List.length_nil, List.length_cons, List.length_map, exp_int, exp_bool, exp_none, aTruth, Option.some.injEq, exL_e, Int.reduceLE, Int.reduceLT, Int.reduceEq, Int.reduceNe, ne_eq, and_true, true_and, Nat.reduceLeDiff, Nat.reduceAdd, Int.reduceNeg, Nat.reduceLT, and_self, nzl_e, nq, wF_range1_e]
    refine ⟨.inl c9, by rw [Int.toNat_of_nonneg hN.1], ext_app xx, by (first | ((repeat (first | exact upd_same | refine (upd_ne rfl).trans ?_)); done) | simp [upd, str_eq_iff]), by (first | ((repeat (first | exact upd_same | refine (upd_ne rfl).trans ?_)); done) | simp [upd, str_eq_iff]), by (first | ((repeat (first | exact upd_same | refine (upd_ne rfl).trans ?_)); done) | simp [upd, str_eq_iff]), by (first | ((repeat (first | exact upd_same | refine (upd_ne rfl).trans ?_)); done) | simp [upd, str_eq_iff]), by (first | ((repeat (first | exact upd_same | refine (upd_ne rfl).trans ?_)); done) | simp [upd, str_eq_iff]), by (first | ((repeat (first | exact upd_same | refine (upd_ne rfl).trans ?_)); done) | simp [upd, str_eq_iff]), app_get b1, app_get b3, app_get a5, W, app_get a4, w1, by exact ar_364 hsum hklen w3 g2, w4⟩
  · rintro k ρ' σ' hk ⟨hx, d1, d2, d3, d4, d5, d6, f1, f2, f3, V, f4, v1, v2, v3⟩
    have c1 : (0 : Int) ≤ 200 + (k : Int) := by exact ar_365
    have c2 : 200 + (k : Int) < 1000000 := by exact ar_366 hq hN hk
    refine wS_cut (fun ρ1 σ1 => ρ1 = upd (upd ρ' "_law_k" (.int k)) "_law_more" (.int (cellV sc (200 + k))) ∧ σ1 = σ') ?_ ?_
    · simp (maxDischargeDepth := 9) only [List.zip_cons_cons, List.zip_nil_right, List.zip_nil_left, bindE, wS_seq_e, wS_assign_e, wS_if_e, wS_nil_e, wS_ret_e, thenS, wA_bin_e, wA_int_e, wA_bool_e, wA_none_e, wA_cmp_e, wA_bcmp_e, wA_bval_e, wA_bnot_e, wA_not_e, wA_neg_e, wA_band_nil_e, wA_band_cons_e, wA_bor_nil_e, wA_bor_cons_e, wA_vand1_e, wA_vand_e, wA_here_e, wA_there_e, str_eq_iff_e, String.reduceEq, not_false_eq_true, wA_list_e, wA_tup_e, wA_args_nil_e, wA_args_cons_e, wA_call_e, wA_sub_e, wA_isi_e, w2_add_e, w2_sub_e, w2_mod_e, w2_div_e, w2_mul_e, w2_pow_e, wC_lt_e, wC_gt_e, wC_ge_e, wC_eqi_e, wC_eqb_e, List.length_nil, List.length_cons, List.length_map, exp_int, exp_bool, exp_none, aTruth, Option.some.injEq, exL_e, Int.reduceLE, Int.reduceLT, Int.reduceEq, Int.reduceNe, ne_eq, and_true, true_and, Nat.reduceLeDiff, Nat.reduceAdd, Int.reduceNeg, Nat.reduceLT, and_self, nzl_e, cell, hx, wA_name d1, c1, c2]
    rintro _ σ' ⟨rfl, rfl⟩
    generalize hmore : cellV sc (200 + k) = more
    have hlen : (ns.length : Int) ≠ 0 := by exact ar_367 g1
    have hv := fmod_lt more (b := ns.length) (by exact ar_368 g1)
    obtain ⟨val, hval, ev⟩ : ∃ val : Int, (0 ≤ val ∧ val < ns.length) ∧ ([.int (more.fmod ns.length), .int (if ns.length - 1 - more.fmod 4 > 0 then ns.length - 1 - more.fmod 4 else 0)] : List AV)[pr.toNat]? = some (.int val) := by
      have : pr = 0 ∨ pr = 1 := by exact ar_369 hp
      rcases this with rfl | rfl
      · exact ⟨_, hv, rfl⟩
      · refine ⟨_, ?_, rfl⟩
        have hm4 := fmod_lt more (b := 4) (by decide)
        split <;> omega
    obtain ⟨V', eV, nV, lV, vV⟩ := put_inD (W := V) (200 - 7 * k) val v1
    have vV' : ∀ p ∈ V', 0 ≤ p.2 ∧ p.2 < ns.length := fun p hp => by
      rcases vV p hp with hp | hp
      · exact v3 p hp
      · rw [hp]; exact hval
    refine wS_cut (fun ρ1 σ1 => ρ1 = upd (upd ρ' "_law_k" (.int k)) "_law_more" (.int more) ∧ ∃ τ, σ1 = (σ' ++ τ).set (σ.length + 3) (.dict (inD V'))) ?_ ?_
    · refine wS_setItemD ?_
      simp (maxDischargeDepth := 9) only [List.zip_cons_cons, List.zip_nil_right, List.zip_nil_left, bindE, wS_seq_e, wS_assign_e, wS_if_e, wS_nil_e, wS_ret_e, thenS, wA_bin_e, wA_int_e, wA_bool_e, wA_none_e, wA_cmp_e, wA_bcmp_e, wA_bval_e, wA_bnot_e, wA_not_e, wA_neg_e, wA_band_nil_e, wA_band_cons_e, wA_bor_nil_e, wA_bor_cons_e, wA_vand1_e, wA_vand_e, wA_here_e, wA_there_e, str_eq_iff_e, String.reduceEq, not_false_eq_true, wA_list_e, wA_tup_e, wA_args_nil_e, wA_args_cons_e, wA_call_e, wA_sub_e, wA_isi_e, w2_add_e, w2_sub_e, w2_mod_e, w2_div_e, w2_mul_e, w2_pow_e, wC_lt_e, wC_gt_e, wC_ge_e, wC_eqi_e, wC_eqb_e, List.length_nil, List.length_cons, List.length_map, exp_int, exp_bool, exp_none, aTruth, Option.some.injEq, exL_e, Int.reduceLE, Int.reduceLT, Int.reduceEq, Int.reduceNe, ne_eq, and_true, true_and, Nat.reduceLeDiff, Nat.reduceAdd, Int.reduceNeg, Nat.reduceLT, and_self, nzl_e, wA_name d2, wA_name d6, wF_len f1, wF_max, hlen]
      rw [w2_item new_get hp.1 ev]
      refine ⟨_, by (first | ((repeat (first | exact d4 | refine (upd_ne rfl).trans ?_)); done) | simpa [upd, str_eq_iff] using d4), .inl c7, inD V, 200 - 7 * k, app_get f4, rfl, by exact ar_370, by rw [inD_len]; exact ar_371 hq hN hk v2, _, by rw [eV]⟩
    rintro _ _ ⟨rfl, τ, rfl⟩
    simp only [wS_nil_e, thenS]
    exact ⟨(ext_app hx).set (by exact ar_370), by (first | ((repeat (first | exact d1 | refine (upd_ne rfl).trans ?_)); done) | simpa [upd, str_eq_iff] using d1), by (first | ((repeat (first | exact d2 | refine (upd_ne rfl).trans ?_)); done) | simpa [upd, str_eq_iff] using d2), by (first | ((repeat (first | exact d3 | refine (upd_ne rfl).trans ?_)); done) | simpa [upd, str_eq_iff] using d3), by (first | ((repeat (first | exact d4 | refine (upd_ne rfl).trans ?_)); done) | simpa [upd, str_eq_iff] using d4), by (first | ((repeat (first | exact d5 | refine (upd_ne rfl).trans ?_)); done) | simpa [upd, str_eq_iff] using d5), by (first | ((repeat (first | exact d6 | refine (upd_ne rfl).trans ?_)); done) | simpa [upd, str_eq_iff] using d6),
      set_get_ne (app_get f1) (by exact ar_372), set_get_ne (app_get f2) (by exact ar_373), set_get_ne (app_get f3) (by exact ar_374), V', set_get (app_get f4), nV, by exact ar_375 v2 lV, vV'⟩
  · rintro ρ' σ' ⟨hx, d1, d2, d3, d4, d5, d6, f1, f2, f3, V, f4, v1, v2, v3⟩
    simp (maxDischargeDepth := 9) only [List.zip_cons_cons, List.zip_nil_right, List.zip_nil_left, bindE, wS_seq_e, wS_assign_e, wS_if_e, wS_nil_e, wS_ret_e, thenS, wA_bin_e, wA_int_e, wA_bool_e, wA_none_e, wA_cmp_e, wA_bcmp_e, wA_bval_e, wA_bnot_e, wA_not_e, wA_neg_e, wA_band_nil_e, wA_band_cons_e, wA_bor_nil_e, wA_bor_cons_e, wA_vand1_e, wA_vand_e, wA_here_e, wA_there_e, str_eq_iff_e, String.reduceEq, not_false_eq_true, wA_list_e, wA_tup_e, wA_args_nil_e, wA_args_cons_e, wA_call_e, wA_sub_e, wA_isi_e, w2_add_e, w2_sub_e, w2_mod_e, w2_div_e, w2_mul_e, w2_pow_e, wC_lt_e, wC_gt_e, wC_ge_e, wC_eqi_e, wC_eqb_e, List.length_nil, List.length_cons, List.length_map, exp_int, exp_bool, exp_none, aTruth, Option.some.injEq, exL_e, Int.reduceLE, Int.reduceLT, Int.reduceEq, Int.reduceNe, ne_eq, and_true, true_and, Nat.reduceLeDiff, Nat.reduceAdd, Int.reduceNeg, Nat.reduceLT, and_self, nzl_e, wA_name d2, wA_name d3, wA_name d4, wA_name d5]
    refine ⟨hx, _, _, expT4 (Nat.le_refl _) (by exact ar_376) (by exact ar_377) (by exact ar_378) f1 f2 f4 f3 (closed_intL _ _) (closed_intL _ _) (closed_intD _ _) (closed_intD _ _), ns, rs, V, H, ⟨hg, fun r hr => ?_, by exact ar_379 hsum hklen g2 r2, v1, by exact ar_380 hq hN v2, v3, w2, fun p hp => ?_⟩, rfl, rfl⟩
    · have := r1 r hr; exact ar_381 this hklen
    · have := w5 p hp; exact ar_381 this hklen
end Inn
end
section
set_option maxRecDepth 10000
set_option linter.unusedVariables false
set_option linter.unusedSimpArgs false
namespace Inn
open PySem PySem.W
theorem kind_at {σ : Store} {q : Nat} {ns : List Int} {r : Int} {Q} (hn : ∀ n ∈ ns, 0 ≤ n) (hK : σ[q]? = some (.list ((kindsO ns 0).map .int))) (hb : 0 ≤ r ∧ r < ns.sum) : w2 getI (.ref q) (.int r) σ Q ↔ Q (.int (kindI ns r)) σ := by
  have hget := kindsO_get ns 0 r.toNat hn (by exact ar_382 hb)
  have e : ((r.toNat : Nat) : Int) = r := by exact ar_383 hb
  rw [e] at hget
  have hit : ((kindsO ns 0).map AV.int)[r.toNat]? = some (.int (kindI ns r)) := by simp [hget, kindI]
  exact w2_item hK hb.1 hit
theorem lawShort_eq {σ : Store} {i j m : Nat} {ns rs : List Int} {ws : List (Int × Int)} (h : σ[i]? = some (.list (ns.map .int))) (hg : houseV ns = true) (hr : σ[j]? = some (.list (rs.map .int))) (hrs : ∀ r ∈ rs, 0 ≤ r ∧ r < ns.sum) (hw : σ[m]? = some (.dict (inD ws))) :
    sp_law_short [.ref i, .ref j, .ref m] σ = some (optV (shortV ns rs ws), σ) := by
  obtain ⟨⟨g1, g2⟩, g3⟩ := house_iff.1 hg
  have hn : ∀ n ∈ ns, 0 ≤ n := fun n hn => (g3 n hn).1
  refine wF_get (wF_fn rfl ?_)
  refine wS_cut (fun ρ' σ' => ρ' = upd (upd (upd (upd emp "_law_counts" (.ref i)) "_law_rooms" (.ref j)) "_law_wants" (.ref m)) "_law_kinds_here" (.ref σ.length) ∧ σ' = σ ++ [.list ((kindsO ns 0).map .int)]) ?_ ?_
  · simp (maxDischargeDepth := 9) only [List.zip_cons_cons, List.zip_nil_right, List.zip_nil_left, bindE, wS_seq_e, wS_assign_e, wS_if_e, wS_nil_e, wS_ret_e, thenS, wA_bin_e, wA_int_e, wA_bool_e, wA_none_e, wA_cmp_e, wA_bcmp_e, wA_bval_e, wA_bnot_e, wA_not_e, wA_neg_e, wA_band_nil_e, wA_band_cons_e, wA_bor_nil_e, wA_bor_cons_e, wA_vand1_e, wA_vand_e, wA_here_e, wA_there_e, str_eq_iff_e, String.reduceEq, not_false_eq_true, wA_list_e, wA_tup_e, wA_args_nil_e, wA_args_cons_e, wA_call_e, wA_sub_e, wA_isi_e, w2_add_e, w2_sub_e, w2_mod_e, w2_div_e, w2_mul_e, w2_pow_e, wC_lt_e, wC_gt_e, wC_ge_e, wC_eqi_e, wC_eqb_e, List.length_nil, List.length_cons, List.length_map, exp_int, exp_bool, exp_none, aTruth, Option.some.injEq, exL_e, Int.reduceLE, Int.reduceLT, Int.reduceEq, Int.reduceNe, ne_eq, and_true, true_and, Nat.reduceLeDiff, Nat.reduceAdd, Int.reduceNeg, Nat.reduceLT, and_self, nzl_e, wF_kinds h hg]
  rintro _ _ ⟨rfl, rfl⟩
  refine wS_seq.2 ?_
  refine wS_forN ns.length (by exact ar_318 g2) (fun k ρ' σ' => Ext (σ ++ [.list ((kindsO ns 0).map .int)]) σ' ∧ ρ' "_law_rooms" = some (.ref j) ∧ ρ' "_law_wants" = some (.ref m) ∧ ρ' "_law_kinds_here" = some (.ref σ.length) ∧ ∀ q : Nat, q < k → decide (atL (rs.map (kindI ns)) q < atL (ws.map (·.2)) q) = false) ?_ ?_ ?_
  · simp (maxDischargeDepth := 9) only [List.zip_cons_cons, List.zip_nil_right, List.zip_nil_left, bindE, wS_seq_e, wS_assign_e, wS_if_e, wS_nil_e, wS_ret_e, thenS, wA_bin_e, wA_int_e, wA_bool_e, wA_none_e, wA_cmp_e, wA_bcmp_e, wA_bval_e, wA_bnot_e, wA_not_e, wA_neg_e, wA_band_nil_e, wA_band_cons_e, wA_bor_nil_e, wA_bor_cons_e, wA_vand1_e, wA_vand_e, wA_here_e, wA_there_e, str_eq_iff_e, String.reduceEq, not_false_eq_true, wA_list_e, wA_tup_e, wA_args_nil_e, wA_args_cons_e, wA_call_e, wA_sub_e, wA_isi_e, w2_add_e, w2_sub_e, w2_mod_e, w2_div_e, w2_mul_e, w2_pow_e, wC_lt_e, wC_gt_e, wC_ge_e, wC_eqi_e, wC_eqb_e, List.length_nil, List.length_cons, List.length_map, exp_int, exp_bool, exp_none, aTruth, Option.some.injEq, exL_e, Int.reduceLE, Int.reduceLT, Int.reduceEq, Int.reduceNe, ne_eq, and_true, true_and, Nat.reduceLeDiff, Nat.reduceAdd, Int.reduceNeg, Nat.reduceLT, and_self, nzl_e, wF_len (app_get (τ := [.list ((kindsO ns 0).map .int)]) h), wF_range1_e]
    exact ⟨ext_refl, by (first | ((repeat (first | exact upd_same | refine (upd_ne rfl).trans ?_)); done) | simp [upd, str_eq_iff]), by (first | ((repeat (first | exact upd_same | refine (upd_ne rfl).trans ?_)); done) | simp [upd, str_eq_iff]), upd_same, fun q hq => absurd hq (Nat.not_lt_zero _)⟩
  · rintro k ρ' σ' hk ⟨hx, e1, e2, e3, e4⟩
    have hx0 : Ext σ σ' := ext_self.trans hx
    rw [wS_seq]
    refine wS_if_of (fun b σ1 => Ext σ' σ1 ∧ b = decide (atL (rs.map (kindI ns)) k < atL (ws.map (·.2)) k)) ?_ ?_ ?_
    · simp (maxDischargeDepth := 9) only [List.zip_cons_cons, List.zip_nil_right, List.zip_nil_left, bindE, wS_seq_e, wS_assign_e, wS_if_e, wS_nil_e, wS_ret_e, thenS, wA_bin_e, wA_int_e, wA_bool_e, wA_none_e, wA_cmp_e, wA_bcmp_e, wA_bval_e, wA_bnot_e, wA_not_e, wA_neg_e, wA_band_nil_e, wA_band_cons_e, wA_bor_nil_e, wA_bor_cons_e, wA_vand1_e, wA_vand_e, wA_here_e, wA_there_e, str_eq_iff_e, String.reduceEq, not_false_eq_true, wA_list_e, wA_tup_e, wA_args_nil_e, wA_args_cons_e, wA_call_e, wA_sub_e, wA_isi_e, w2_add_e, w2_sub_e, w2_mod_e, w2_div_e, w2_mul_e, w2_pow_e, wC_lt_e, wC_gt_e, wC_ge_e, wC_eqi_e, wC_eqb_e, List.length_nil, List.length_cons, List.length_map, exp_int, exp_bool, exp_none, aTruth, Option.some.injEq, exL_e, Int.reduceLE, Int.reduceLT, Int.reduceEq, Int.reduceNe, ne_eq, and_true, true_and, Nat.reduceLeDiff, Nat.reduceAdd, Int.reduceNeg, Nat.reduceLT, and_self, nzl_e, wA_values (x := "_law_wants") (ρ := upd ρ' "_law_kind" (.int k)) (by (first | ((repeat (first | exact e2 | refine (upd_ne rfl).trans ?_)); done) | simpa [upd, str_eq_iff] using e2)) (hx0.get hw), wF_listV (hx0.get hw)]
      rw [inD_vals, wF_atLeast new_get]
      refine wA_compM (fun r => .int (kindI ns r)) ?_
      simp (maxDischargeDepth := 9) only [List.zip_cons_cons, List.zip_nil_right, List.zip_nil_left, bindE, wS_seq_e, wS_assign_e, wS_if_e, wS_nil_e, wS_ret_e, thenS, wA_bin_e, wA_int_e, wA_bool_e, wA_none_e, wA_cmp_e, wA_bcmp_e, wA_bval_e, wA_bnot_e, wA_not_e, wA_neg_e, wA_band_nil_e, wA_band_cons_e, wA_bor_nil_e, wA_bor_cons_e, wA_vand1_e, wA_vand_e, wA_here_e, wA_there_e, str_eq_iff_e, String.reduceEq, not_false_eq_true, wA_list_e, wA_tup_e, wA_args_nil_e, wA_args_cons_e, wA_call_e, wA_sub_e, wA_isi_e, w2_add_e, w2_sub_e, w2_mod_e, w2_div_e, w2_mul_e, w2_pow_e, wC_lt_e, wC_gt_e, wC_ge_e, wC_eqi_e, wC_eqb_e, List.length_nil, List.length_cons, List.length_map, exp_int, exp_bool, exp_none, aTruth, Option.some.injEq, exL_e, Int.reduceLE, Int.reduceLT, Int.reduceEq, Int.reduceNe, ne_eq, and_true, true_and, Nat.reduceLeDiff, Nat.reduceAdd, Int.reduceNeg, Nat.reduceLT, and_self, nzl_e, wA_name e1]
      refine ⟨rs, items_list (app_get (hx0.get hr)), fun r hrr => ?_, ?_⟩
      · have hb := hrs r hrr
        have hget := kindsO_get ns 0 r.toNat hn (by exact ar_382 hb)
        have e : ((r.toNat : Nat) : Int) = r := by exact ar_383 hb
        rw [e] at hget
        have hit : ((kindsO ns 0).map AV.int)[r.toNat]? = some (.int (kindI ns r)) := by simp [hget, kindI]
        have hK := app_get (τ := [.list ((ws.map (·.2)).map .int)]) (hx.get (new_get (σ := σ)))
        simp (maxDischargeDepth := 9) only [List.zip_cons_cons, List.zip_nil_right, List.zip_nil_left, bindE, wS_seq_e, wS_assign_e, wS_if_e, wS_nil_e, wS_ret_e, thenS, wA_bin_e, wA_int_e, wA_bool_e, wA_none_e, wA_cmp_e, wA_bcmp_e, wA_bval_e, wA_bnot_e, wA_not_e, wA_neg_e, wA_band_nil_e, wA_band_cons_e, wA_bor_nil_e, wA_bor_cons_e, wA_vand1_e, wA_vand_e, wA_here_e, wA_there_e, str_eq_iff_e, String.reduceEq, not_false_eq_true, wA_list_e, wA_tup_e, wA_args_nil_e, wA_args_cons_e, wA_call_e, wA_sub_e, wA_isi_e, w2_add_e, w2_sub_e, w2_mod_e, w2_div_e, w2_mul_e, w2_pow_e, wC_lt_e, wC_gt_e, wC_ge_e, wC_eqi_e, wC_eqb_e, List.length_nil, List.length_cons, List.length_map, exp_int, exp_bool, exp_none, aTruth, Option.some.injEq, exL_e, Int.reduceLE, Int.reduceLT, Int.reduceEq, Int.reduceNe, ne_eq, and_true, true_and, Nat.reduceLeDiff, Nat.reduceAdd, Int.reduceNeg, Nat.reduceLT, and_self, nzl_e, wA_name e3, w2_item hK hb.1 hit, AV.closed]
      · have hm : (rs.map fun r => AV.int (kindI ns r)) = (rs.map (kindI ns)).map .int := by simp
        rw [hm, wF_atLeast new_get]
        simp only [List.zip_cons_cons, List.zip_nil_right, List.zip_nil_left, bindE, wS_seq_e, wS_assign_e, wS_if_e, wS_nil_e, wS_ret_e, thenS, wA_bin_e, wA_int_e, wA_bool_e, wA_none_e, wA_cmp_e, wA_bcmp_e, wA_bval_e, wA_bnot_e, wA_not_e, wA_neg_e, wA_band_nil_e, wA_band_cons_e, wA_bor_nil_e, wA_bor_cons_e, wA_vand1_e, wA_vand_e, wA_here_e, wA_there_e, str_eq_iff_e, String.reduceEq, not_false_eq_true, wA_list_e, wA_tup_e, wA_args_nil_e, wA_args_cons_e, wA_call_e, wA_sub_e, wA_isi_e, w2_add_e, w2_sub_e, w2_mod_e, w2_div_e, w2_mul_e, w2_pow_e, wC_lt_e, wC_gt_e, wC_ge_e, wC_eqi_e, wC_eqb_e, List.length_nil, List.length_cons, List.length_map, exp_int, exp_bool, exp_none, aTruth, Option.some.injEq, exL_e, Int.reduceLE, Int.reduceLT, Int.reduceEq, Int.reduceNe, ne_eq, and_true, true_and, Nat.reduceLeDiff, Nat.reduceAdd, Int.reduceNeg, Nat.reduceLT, and_self, nzl_e]
        exact ⟨ext_app ext_self, by rw [decide_eq_decide]; omega⟩
    · rintro σ1 ⟨hx1, hb⟩
      simp (maxDischargeDepth := 9) only [List.zip_cons_cons, List.zip_nil_right, List.zip_nil_left, bindE, wS_seq_e, wS_assign_e, wS_if_e, wS_nil_e, wS_ret_e, thenS, wA_bin_e, wA_int_e, wA_bool_e, wA_none_e, wA_cmp_e, wA_bcmp_e, wA_bval_e, wA_bnot_e, wA_not_e, wA_neg_e, wA_band_nil_e, wA_band_cons_e, wA_bor_nil_e, wA_bor_cons_e, wA_vand1_e, wA_vand_e, wA_here_e, wA_there_e, str_eq_iff_e, String.reduceEq, not_false_eq_true, wA_list_e, wA_tup_e, wA_args_nil_e, wA_args_cons_e, wA_call_e, wA_sub_e, wA_isi_e, w2_add_e, w2_sub_e, w2_mod_e, w2_div_e, w2_mul_e, w2_pow_e, wC_lt_e, wC_gt_e, wC_ge_e, wC_eqi_e, wC_eqb_e, List.length_nil, List.length_cons, List.length_map, exp_int, exp_bool, exp_none, aTruth, Option.some.injEq, exL_e, Int.reduceLE, Int.reduceLT, Int.reduceEq, Int.reduceNe, ne_eq, and_true, true_and, Nat.reduceLeDiff, Nat.reduceAdd, Int.reduceNeg, Nat.reduceLT, and_self, nzl_e]
      refine ⟨hx0.trans hx1, _, _, rfl, ?_, rfl⟩
      rw [shortV, find_range_some e4 hb.symm hk]; rfl
    · rintro σ1 ⟨hx1, hb⟩
      simp only [wS_nil_e, thenS]
      refine ⟨hx.trans hx1, by (first | ((repeat (first | exact e1 | refine (upd_ne rfl).trans ?_)); done) | simpa [upd, str_eq_iff] using e1), by (first | ((repeat (first | exact e2 | refine (upd_ne rfl).trans ?_)); done) | simpa [upd, str_eq_iff] using e2), by (first | ((repeat (first | exact e3 | refine (upd_ne rfl).trans ?_)); done) | simpa [upd, str_eq_iff] using e3), fun q hq => ?_⟩
      by_cases hqk : q < k
      · exact e4 q hqk
      · have : q = k := by exact Nat.eq_of_lt_succ_of_not_lt hq hqk
        subst this; exact hb.symm
  · rintro ρ' σ' ⟨hx, e1, e2, e3, e4⟩
    simp only [List.zip_cons_cons, List.zip_nil_right, List.zip_nil_left, bindE, wS_seq_e, wS_assign_e, wS_if_e, wS_nil_e, wS_ret_e, thenS, wA_bin_e, wA_int_e, wA_bool_e, wA_none_e, wA_cmp_e, wA_bcmp_e, wA_bval_e, wA_bnot_e, wA_not_e, wA_neg_e, wA_band_nil_e, wA_band_cons_e, wA_bor_nil_e, wA_bor_cons_e, wA_vand1_e, wA_vand_e, wA_here_e, wA_there_e, str_eq_iff_e, String.reduceEq, not_false_eq_true, wA_list_e, wA_tup_e, wA_args_nil_e, wA_args_cons_e, wA_call_e, wA_sub_e, wA_isi_e, w2_add_e, w2_sub_e, w2_mod_e, w2_div_e, w2_mul_e, w2_pow_e, wC_lt_e, wC_gt_e, wC_ge_e, wC_eqi_e, wC_eqb_e, List.length_nil, List.length_cons, List.length_map, exp_int, exp_bool, exp_none, aTruth, Option.some.injEq, exL_e, Int.reduceLE, Int.reduceLT, Int.reduceEq, Int.reduceNe, ne_eq, and_true, true_and, Nat.reduceLeDiff, Nat.reduceAdd, Int.reduceNeg, Nat.reduceLT, and_self, nzl_e]
    refine ⟨ext_self.trans hx, _, _, rfl, ?_, rfl⟩
    rw [shortV, find_range_none e4]; rfl
theorem wF_lawShort {σ : Store} {i j m : Nat} {ns rs : List Int} {ws : List (Int × Int)} {Q} (h : σ[i]? = some (.list (ns.map .int))) (hg : houseV ns = true) (hr : σ[j]? = some (.list (rs.map .int))) (hrs : ∀ r ∈ rs, 0 ≤ r ∧ r < ns.sum) (hw : σ[m]? = some (.dict (inD ws))) :
    wF sp_law_short [.ref i, .ref j, .ref m] σ Q ↔ Q (optV (shortV ns rs ws)) σ := wF_eq (lawShort_eq h hg hr hrs hw)
theorem shortKind_eq {σ : Store} {i j m : Nat} {ns rs : List Int} {ws : List (Int × Int)} (h : σ[i]? = some (.list (ns.map .int))) (hl : ns.length < 1000) (hr : σ[j]? = some (.list (rs.map .int))) (hrs : ∀ r ∈ rs, 0 ≤ r ∧ r < ns.sum) (hw : σ[m]? = some (.dict (inD ws))) (hnd : (ws.map (·.1)).Nodup) :
    sp_short_kind [.ref i, .ref j, .ref m] σ = some (optV (shortV ns rs ws), σ) := by
  refine wF_get (wF_fn rfl ?_)
  refine wS_seq.2 ?_
  refine wS_forN ns.length (by exact ar_325 hl) (fun k ρ' σ' => σ' = σ ∧ ρ' "counts" = some (.ref i) ∧ ρ' "rooms" = some (.ref j) ∧ ρ' "wants" = some (.ref m) ∧ ∀ q : Nat, q < k → decide (atL (rs.map (kindI ns)) q < atL (ws.map (·.2)) q) = false) ?_ ?_ ?_
  · simp (maxDischargeDepth := 9) only [List.zip_cons_cons, List.zip_nil_right, List.zip_nil_left, bindE, wS_seq_e, wS_assign_e, wS_if_e, wS_nil_e, wS_ret_e, thenS, wA_bin_e, wA_int_e, wA_bool_e, wA_none_e, wA_cmp_e, wA_bcmp_e, wA_bval_e, wA_bnot_e, wA_not_e, wA_neg_e, wA_band_nil_e, wA_band_cons_e, wA_bor_nil_e, wA_bor_cons_e, wA_vand1_e, wA_vand_e, wA_here_e, wA_there_e, str_eq_iff_e, String.reduceEq, not_false_eq_true, wA_list_e, wA_tup_e, wA_args_nil_e, wA_args_cons_e, wA_call_e, wA_sub_e, wA_isi_e, w2_add_e, w2_sub_e, w2_mod_e, w2_div_e, w2_mul_e, w2_pow_e, wC_lt_e, wC_gt_e, wC_ge_e, wC_eqi_e, wC_eqb_e, List.length_nil, List.length_cons, List.length_map, exp_int, exp_bool, exp_none, aTruth, Option.some.injEq, exL_e, Int.reduceLE, Int.reduceLT, Int.reduceEq, Int.reduceNe, ne_eq, and_true, true_and, Nat.reduceLeDiff, Nat.reduceAdd, Int.reduceNeg, Nat.reduceLT, and_self, nzl_e, wF_len h, wF_range1_e]
    exact ⟨by (first | ((repeat (first | exact upd_same | refine (upd_ne rfl).trans ?_)); done) | simp [upd, str_eq_iff]), by (first | ((repeat (first | exact upd_same | refine (upd_ne rfl).trans ?_)); done) | simp [upd, str_eq_iff]), by (first | ((repeat (first | exact upd_same | refine (upd_ne rfl).trans ?_)); done) | simp [upd, str_eq_iff]), fun q hq => absurd hq (Nat.not_lt_zero _)⟩
  · rintro k ρ' σ' hk ⟨rfl, e1, e2, e3, e4⟩
    have hb : decide (spareV ns rs ws k < 0) = decide (atL (rs.map (kindI ns)) k < atL (ws.map (·.2)) k) := by rw [decide_eq_decide, spareV]; omega
    simp (maxDischargeDepth := 9) only [List.zip_cons_cons, List.zip_nil_right, List.zip_nil_left, bindE, wS_seq_e, wS_assign_e, wS_if_e, wS_nil_e, wS_ret_e, thenS, wA_bin_e, wA_int_e, wA_bool_e, wA_none_e, wA_cmp_e, wA_bcmp_e, wA_bval_e, wA_bnot_e, wA_not_e, wA_neg_e, wA_band_nil_e, wA_band_cons_e, wA_bor_nil_e, wA_bor_cons_e, wA_vand1_e, wA_vand_e, wA_here_e, wA_there_e, str_eq_iff_e, String.reduceEq, not_false_eq_true, wA_list_e, wA_tup_e, wA_args_nil_e, wA_args_cons_e, wA_call_e, wA_sub_e, wA_isi_e, w2_add_e, w2_sub_e, w2_mod_e, w2_div_e, w2_mul_e, w2_pow_e, wC_lt_e, wC_gt_e, wC_ge_e, wC_eqi_e, wC_eqb_e, List.length_nil, List.length_cons, List.length_map, exp_int, exp_bool, exp_none, aTruth, Option.some.injEq, exL_e, Int.reduceLE, Int.reduceLT, Int.reduceEq, Int.reduceNe, ne_eq, and_true, true_and, Nat.reduceLeDiff, Nat.reduceAdd, Int.reduceNeg, Nat.reduceLT, and_self, nzl_e, wA_name e1, wA_name e2, wA_name e3, wF_spare h hl hr hrs hw hnd, hb]
    cases hc : decide (atL (rs.map (kindI ns)) k < atL (ws.map (·.2)) k) with
    | true =>
      simp (maxDischargeDepth := 9) only [List.zip_cons_cons, List.zip_nil_right, List.zip_nil_left, bindE, wS_seq_e, wS_assign_e, wS_if_e, wS_nil_e, wS_ret_e, thenS, wA_bin_e, wA_int_e, wA_bool_e, wA_none_e, wA_cmp_e, wA_bcmp_e, wA_bval_e, wA_bnot_e, wA_not_e, wA_neg_e, wA_band_nil_e, wA_band_cons_e, wA_bor_nil_e, wA_bor_cons_e, wA_vand1_e, wA_vand_e, wA_here_e, wA_there_e, str_eq_iff_e, String.reduceEq, not_false_eq_true, wA_list_e, wA_tup_e, wA_args_nil_e, wA_args_cons_e, wA_call_e, wA_sub_e, wA_isi_e, w2_add_e, w2_sub_e, w2_mod_e, w2_div_e, w2_mul_e, w2_pow_e, wC_lt_e, wC_gt_e, wC_ge_e, wC_eqi_e, wC_eqb_e, List.length_nil, List.length_cons, List.length_map, exp_int, exp_bool, exp_none, aTruth, Option.some.injEq, exL_e, Int.reduceLE, Int.reduceLT, Int.reduceEq, Int.reduceNe, ne_eq, and_true, true_and, Nat.reduceLeDiff, Nat.reduceAdd, Int.reduceNeg, Nat.reduceLT, and_self, nzl_e, if_true]
      refine ⟨ext_refl, _, _, rfl, ?_, rfl⟩
      rw [shortV, find_range_some e4 hc hk]; rfl
    | false =>
      simp (maxDischargeDepth := 9) only [List.zip_cons_cons, List.zip_nil_right, List.zip_nil_left, bindE, wS_seq_e, wS_assign_e, wS_if_e, wS_nil_e, wS_ret_e, thenS, wA_bin_e, wA_int_e, wA_bool_e, wA_none_e, wA_cmp_e, wA_bcmp_e, wA_bval_e, wA_bnot_e, wA_not_e, wA_neg_e, wA_band_nil_e, wA_band_cons_e, wA_bor_nil_e, wA_bor_cons_e, wA_vand1_e, wA_vand_e, wA_here_e, wA_there_e, str_eq_iff_e, String.reduceEq, not_false_eq_true, wA_list_e, wA_tup_e, wA_args_nil_e, wA_args_cons_e, wA_call_e, wA_sub_e, wA_isi_e, w2_add_e, w2_sub_e, w2_mod_e, w2_div_e, w2_mul_e, w2_pow_e, wC_lt_e, wC_gt_e, wC_ge_e, wC_eqi_e, wC_eqb_e, List.length_nil, List.length_cons, List.length_map, exp_int, exp_bool, exp_none, aTruth, Option.some.injEq, exL_e, Int.reduceLE, Int.reduceLT, Int.reduceEq, Int.reduceNe, ne_eq, and_true, true_and, Nat.reduceLeDiff, Nat.reduceAdd, Int.reduceNeg, Nat.reduceLT, and_self, nzl_e, Bool.false_eq_true, if_false]
      refine ⟨by (first | ((repeat (first | exact e1 | refine (upd_ne rfl).trans ?_)); done) | simpa [upd, str_eq_iff] using e1), by (first | ((repeat (first | exact e2 | refine (upd_ne rfl).trans ?_)); done) | simpa [upd, str_eq_iff] using e2), by (first | ((repeat (first | exact e3 | refine (upd_ne rfl).trans ?_)); done) | simpa [upd, str_eq_iff] using e3), fun q hq => ?_⟩
      by_cases hqk : q < k
      · exact e4 q hqk
      · have : q = k := by exact Nat.eq_of_lt_succ_of_not_lt hq hqk
        subst this; exact hc
  · rintro ρ' σ' ⟨rfl, e1, e2, e3, e4⟩
    simp only [List.zip_cons_cons, List.zip_nil_right, List.zip_nil_left, bindE, wS_seq_e, wS_assign_e, wS_if_e, wS_nil_e, wS_ret_e, thenS, wA_bin_e, wA_int_e, wA_bool_e, wA_none_e, wA_cmp_e, wA_bcmp_e, wA_bval_e, wA_bnot_e, wA_not_e, wA_neg_e, wA_band_nil_e, wA_band_cons_e, wA_bor_nil_e, wA_bor_cons_e, wA_vand1_e, wA_vand_e, wA_here_e, wA_there_e, str_eq_iff_e, String.reduceEq, not_false_eq_true, wA_list_e, wA_tup_e, wA_args_nil_e, wA_args_cons_e, wA_call_e, wA_sub_e, wA_isi_e, w2_add_e, w2_sub_e, w2_mod_e, w2_div_e, w2_mul_e, w2_pow_e, wC_lt_e, wC_gt_e, wC_ge_e, wC_eqi_e, wC_eqb_e, List.length_nil, List.length_cons, List.length_map, exp_int, exp_bool, exp_none, aTruth, Option.some.injEq, exL_e, Int.reduceLE, Int.reduceLT, Int.reduceEq, Int.reduceNe, ne_eq, and_true, true_and, Nat.reduceLeDiff, Nat.reduceAdd, Int.reduceNeg, Nat.reduceLT, and_self, nzl_e]
    refine ⟨ext_refl, _, _, rfl, ?_, rfl⟩
    rw [shortV, find_range_none e4]; rfl
theorem wF_shortKind {σ : Store} {i j m : Nat} {ns rs : List Int} {ws : List (Int × Int)} {Q} (h : σ[i]? = some (.list (ns.map .int))) (hl : ns.length < 1000) (hr : σ[j]? = some (.list (rs.map .int))) (hrs : ∀ r ∈ rs, 0 ≤ r ∧ r < ns.sum) (hw : σ[m]? = some (.dict (inD ws))) (hnd : (ws.map (·.1)).Nodup) :
    wF sp_short_kind [.ref i, .ref j, .ref m] σ Q ↔ Q (optV (shortV ns rs ws)) σ := wF_eq (shortKind_eq h hl hr hrs hw hnd)
theorem atL_perm {l l' : List Int} (h : l.Perm l') (k : Int) : atL l k = atL l' k := (h.filter _).length_eq
theorem atL_snoc (l : List Int) (n k : Int) : atL (l ++ [n]) k = atL l k + if k ≤ n then 1 else 0 := by
  unfold atL
  rw [List.filter_append, List.length_append]
  by_cases h : k ≤ n <;> simp [h]
theorem atL_erase {f : Int → Int} {F : List Int} {r : Int} (h : r ∈ F) (k : Int) : atL ((F.erase r).map f) k + (if k ≤ f r then 1 else 0) = atL (F.map f) k := by
  rw [atL_perm ((List.perm_cons_erase h).map f) k]
  unfold atL
  rw [List.map_cons, List.filter_cons]
  by_cases hk : k ≤ f r <;> simp [hk]
noncomputable def GI (ns rs d F : List Int) : Prop := ∀ k : Int, atL (rs.map (kindI ns)) k ≤ atL (F.map (kindI ns)) k + d.length ∧ atL (F.map (kindI ns)) k + atL d k ≤ atL (rs.map (kindI ns)) k
theorem GI.step {ns rs d F : List Int} {n r : Int} (h : GI ns rs d F) (hr : r ∈ F) (hn : n ≤ kindI ns r) : GI ns rs (d ++ [n]) (F.erase r) := fun k => by
  obtain ⟨h1, h2⟩ := h k
  have h3 := atL_erase (f := kindI ns) hr k
  rw [atL_snoc, List.length_append]
  simp only [List.length_cons, List.length_nil]
  by_cases c1 : k ≤ n
  · have c2 : k ≤ kindI ns r := Int.le_trans c1 hn
    simp only [c1, c2, if_true] at h3 ⊢
    exact ar_384 h3 h2 h1
  · simp only [c1, if_false] at h3 ⊢
    split at h3 <;> omega
theorem atL_all {l : List Int} {k : Int} (h : ∀ x ∈ l, k ≤ x) : atL l k = l.length := by
  unfold atL
  rw [List.filter_eq_self.mpr fun x hx => decide_eq_true (h x hx)]
theorem short_none {ns rs : List Int} {ws : List (Int × Int)} (h : ∀ k : Int, atL (ws.map (·.2)) k ≤ atL (rs.map (kindI ns)) k) : (shortV ns rs ws).isNone = true := by
  rw [Option.isNone_iff_eq_none, shortV]
  exact find_range_none fun k _ => decide_eq_false (Nat.not_lt.mpr (h k))
theorem short_some {ns rs : List Int} {ws : List (Int × Int)} {n : Int} (h0 : 0 ≤ n) (h1 : n < ns.length) (h : atL (rs.map (kindI ns)) n < atL (ws.map (·.2)) n) : (shortV ns rs ws).isNone = false := by
  obtain ⟨k, rfl⟩ : ∃ k : Nat, n = k := ⟨n.toNat, by exact Eq.symm (Int.toNat_of_nonneg h0)⟩
  cases e : shortV ns rs ws with
  | some _ => rfl
  | none =>
    rw [shortV, List.find?_eq_none] at e
    have := e k (List.mem_range.mpr (by exact Int.ofNat_lt.mp h1))
    simp at this; omega
theorem GI.fails {ns rs d F r : List Int} {ws : List (Int × Int)} {n : Int} (h : GI ns rs d F) (hL : ((sortI (ws.map (·.2))).reverse) = d ++ n :: r) (hg : F.filter (fun x => decide (n ≤ kindI ns x)) = []) (h0 : 0 ≤ n) (h1 : n < ns.length) : (shortV ns rs ws).isNone = false := by
  refine short_some h0 h1 ?_
  have hz : atL (F.map (kindI ns)) n = 0 := by rw [atL_map, hg]; rfl
  have hp : ((sortI (ws.map (·.2))).reverse).Perm (ws.map (·.2)) := (List.reverse_perm _).trans (sortI_perm _)
  have hs : ((sortI (ws.map (·.2))).reverse).Pairwise (· ≥ ·) := by rw [List.pairwise_reverse]; exact sortI_rises _
  rw [hL] at hp hs
  rw [← atL_perm hp n]
  have hd : atL d n = d.length := atL_all fun x hx => (List.pairwise_append.mp hs).2.2 x hx n (.head _)
  have hc : atL (d ++ n :: r) n = atL d n + atL (n :: r) n := by unfold atL; rw [List.filter_append, List.length_append]
  have hn : 0 < atL (n :: r) n := by unfold atL; simp
  have := (h n).1
  exact ar_387 hn hc hz hd this
theorem wS_remove {n₀ x m ρ σ} {Q : AF → AEnv → Store → Prop} {i : Nat} {ns : List Int} (h1 : ρ x = some (.ref i)) (h2 : σ[i]? = some (.list (ns.map .int))) (h3 : n₀ ≤ i)
    (h : wA m ρ σ fun v σ1 => ∃ k, v = .int k ∧ k ∈ ns ∧ Q .next ρ (σ1.set i (.list ((ns.erase k).map .int)))) : wS (sRemove n₀ x m) ρ σ Q := by
  obtain ⟨v, σ1, e, k, rfl, hk, q⟩ := h
  refine ⟨_, _, _, ?_, q⟩
  simp only [sRemove, h1, h2, Option.bind_some, intsOf_map, e]
  rw [if_pos ⟨h3, hk⟩, ← List.erase_eq_eraseIdx_of_idxOf rfl]
theorem wF_sortedR {σ : Store} {i : Nat} {ns : List Int} {Q} (h : σ[i]? = some (.list (ns.map .int))) (hl : ns.length < 128) : wF bSortedR [.ref i] σ Q ↔ Q (.ref σ.length) (σ ++ [.list ((sortI ns).reverse.map .int)]) := wF_eq (by simp [bSortedR, h, intsOf_map, hl])
structure RmI (σ : Store) (i : Nat) (ns rs : List Int) (W : List (Int × Int)) (d : List Int) (ρ' : AEnv) (σ' : Store) : Prop where
  f0 : Ext σ σ'
  f1 : σ'[σ.length]? = some (.list ((kindsO ns 0).map .int))
  f2 : σ'[σ.length + 3]? = some (.list ((sortI (W.map (·.2))).reverse.map .int))
  f3 : ρ' "_law_script" = some (.ref i)
  f4 : ρ' "_law_kinds_here" = some (.ref σ.length)
  f5 : ρ' "_law_free" = some (.ref (σ.length + 1))
  f6 : ρ' "_law_turn" = some (.int d.length)
  f7 : ∃ F : List Int, σ'[σ.length + 1]? = some (.list (F.map .int)) ∧ (∀ r ∈ F, 0 ≤ r ∧ r < ns.sum) ∧ GI ns rs d F
theorem roomed_eq {σ : Store} {i a b c : Nat} {sc ns rs : List Int} {W H : List (Int × Int)} (N : Night ns rs W H) (h : σ[i]? = some (.list (sc.map .int))) (hl : sc.length ≤ 1000) (ha : σ[a]? = some (.list (ns.map .int))) (hb : σ[b]? = some (.list (rs.map .int))) (hw : σ[c]? = some (.dict (inD W))) :
    sp_law_all_roomed [.ref i, .ref a, .ref b, .ref c] σ = some (.bool (shortV ns rs W).isNone, σ) := by
  obtain ⟨⟨g1, g2⟩, g3⟩ := house_iff.1 N.house
  have hn : ∀ n ∈ ns, 0 ≤ n := fun n hn => (g3 n hn).1
  refine wF_get (wF_fn rfl ?_)
  have hb1 := app_get (τ := [.list ((kindsO ns 0).map .int)]) hb
  simp (maxDischargeDepth := 9) only [List.zip_cons_cons, List.zip_nil_right, bindE, wS_seq_e, wS_assign_e, wA_call_e, wA_args_cons_e, wA_args_nil_e, wA_here_e, wA_there_e, wA_int_e, str_eq_iff_e, String.reduceEq, not_false_eq_true, thenS, wF_kinds ha N.house, wF_listL hb1]
  have x2 : Ext σ (σ ++ [AO.list ((kindsO ns 0).map .int)] ++ [AO.list (rs.map .int)]) := ext_app ext_self
  have k0 : (σ ++ [AO.list ((kindsO ns 0).map .int)] ++ [AO.list (rs.map .int)])[σ.length]? = some (.list ((kindsO ns 0).map .int)) := app_get new_get
  have k1 : (σ ++ [AO.list ((kindsO ns 0).map .int)] ++ [AO.list (rs.map .int)])[σ.length + 1]? = some (.list (rs.map .int)) := by
    have := new_get (σ := σ ++ [AO.list ((kindsO ns 0).map .int)]) (o := .list (rs.map .int))
    rw [List.length_append] at this; exact this
  have l1 : (σ ++ [AO.list ((kindsO ns 0).map .int)]).length = σ.length + 1 := by simp
  have l2 : (σ ++ [AO.list ((kindsO ns 0).map .int)] ++ [AO.list (rs.map .int)]).length = σ.length + 2 := by simp
  rw [l1]
  generalize σ ++ [AO.list ((kindsO ns 0).map .int)] ++ [AO.list (rs.map .int)] = σ2 at x2 k0 k1 l2 ⊢
  have hval : ((sortI (W.map (·.2))).reverse).length < 128 := by
    rw [List.length_reverse, (sortI_perm _).length_eq, List.length_map]; exact N.wL
  refine wS_forI (σ.length + 3) (sortI (W.map (·.2))).reverse (RmI σ i ns rs W) ?_ ?_ ?_ ?_
  · have ew : upd (upd (upd (upd (upd (upd (upd emp "_law_script" (.ref i)) "_law_counts" (.ref a)) "_law_rooms" (.ref b)) "_law_wants" (.ref c)) "_law_kinds_here" (.ref σ.length)) "_law_free" (.ref (σ.length + 1))) "_law_turn" (.int 0) "_law_wants" = some (.ref c) := by (first | ((repeat (first | exact upd_same | refine (upd_ne rfl).trans ?_)); done) | simp [upd, str_eq_iff])
    simp (maxDischargeDepth := 9) only [wA_call_e, wA_args_cons_e, wA_args_nil_e, wA_values ew (x2.get hw), wF_listV (x2.get hw)]
    rw [inD_vals, wF_sortedR new_get (by rw [List.length_map]; exact N.wL)]
    have l3 : (σ2 ++ [AO.list ((W.map (·.2)).map .int)]).length = σ.length + 3 := by simp [l2]
    refine ⟨by rw [l3], ext_app (ext_app x2), app_get (app_get k0), ?_, by (first | ((repeat (first | exact upd_same | refine (upd_ne rfl).trans ?_)); done) | simp [upd, str_eq_iff]), by (first | ((repeat (first | exact upd_same | refine (upd_ne rfl).trans ?_)); done) | simp [upd, str_eq_iff]), by (first | ((repeat (first | exact upd_same | refine (upd_ne rfl).trans ?_)); done) | simp [upd, str_eq_iff]), by simp [upd], rs, app_get (app_get k1), N.rooms, fun k => ⟨by simp, by simp [atL]⟩⟩
    rw [← l3]; exact new_get
  · rintro d ρ' σ' ⟨_, _, e, _⟩; exact e
  · rintro d n r ρ' σ' he ⟨hx, f0, f3, e1, e2, e3, e4, F, f1, fb, hG⟩
    have hmem : n ∈ W.map (·.2) := (sortI_perm _).mem_iff.mp (List.mem_reverse.mp (by rw [he]; simp))
    obtain ⟨pq, hpq, hpn⟩ := List.mem_map.mp hmem
    have hnb := N.wV _ hpq
    rw [hpn] at hnb
    have hdl : d.length < 128 := by rw [he, List.length_append] at hval; exact ar_388 hval
    refine wS_cut (fun ρ1 σ1 => ρ1 = upd (upd ρ' "_law_want" (.int n)) "_law_good" (.ref σ'.length) ∧ σ1 = σ' ++ [.list ((F.filter fun x => decide (n ≤ kindI ns x)).map .int)]) ?_ ?_
    · rw [wS_assignC]
      refine wA_compI (fun x => decide (n ≤ kindI ns x)) .int ?_
      have e3' : upd ρ' "_law_want" (.int n) "_law_free" = some (.ref (σ.length + 1)) := by (first | ((repeat (first | exact e3 | refine (upd_ne rfl).trans ?_)); done) | simpa [upd, str_eq_iff] using e3)
      simp only [wA_name e3']
      refine ⟨F, items_list f1, fun x hxF => ?_, by trivial, by trivial, rfl⟩
      simp (maxDischargeDepth := 9) only [List.zip_cons_cons, List.zip_nil_right, List.zip_nil_left, bindE, wS_seq_e, wS_assign_e, wS_if_e, wS_nil_e, wS_ret_e, thenS, wA_bin_e, wA_int_e, wA_bool_e, wA_none_e, wA_cmp_e, wA_bcmp_e, wA_bval_e, wA_bnot_e, wA_not_e, wA_neg_e, wA_band_nil_e, wA_band_cons_e, wA_bor_nil_e, wA_bor_cons_e, wA_vand1_e, wA_vand_e, wA_here_e, wA_there_e, str_eq_iff_e, String.reduceEq, not_false_eq_true, wA_list_e, wA_tup_e, wA_args_nil_e, wA_args_cons_e, wA_call_e, wA_sub_e, wA_isi_e, w2_add_e, w2_sub_e, w2_mod_e, w2_div_e, w2_mul_e, w2_pow_e, wC_lt_e, wC_gt_e, wC_ge_e, wC_eqi_e, wC_eqb_e, List.length_nil, List.length_cons, List.length_map, exp_int, exp_bool, exp_none, aTruth, Option.some.injEq, exL_e, Int.reduceLE, Int.reduceLT, Int.reduceEq, Int.reduceNe, ne_eq, and_true, true_and, Nat.reduceLeDiff, Nat.reduceAdd, Int.reduceNeg, Nat.reduceLT, and_self, nzl_e, wA_name e2, kind_at hn f0 (fb x hxF)]
      by_cases hk : n ≤ kindI ns x <;> simp [hk, AV.closed, wA_band_nil_e, wA_here_e]
    rintro _ _ ⟨rfl, rfl⟩
    generalize hgd : (F.filter fun x => decide (n ≤ kindI ns x)) = good
    have hgm : ∀ x ∈ good, x ∈ F ∧ n ≤ kindI ns x := fun x hx' => by rw [← hgd] at hx'; have := List.mem_filter.mp hx'; exact ⟨this.1, of_decide_eq_true this.2⟩
    have d0 : (σ' ++ [AO.list (good.map .int)])[σ'.length]? = some (.list (good.map .int)) := new_get
    have xg : Ext σ' (σ' ++ [AO.list (good.map .int)]) := ext_self
    generalize σ' ++ [AO.list (good.map .int)] = σ3 at d0 xg
    have eg : upd (upd ρ' "_law_want" (.int n)) "_law_good" (.ref σ'.length) "_law_good" = some (.ref σ'.length) := upd_same
    have e1' : upd (upd ρ' "_law_want" (.int n)) "_law_good" (.ref σ'.length) "_law_script" = some (.ref i) := by (first | ((repeat (first | exact e1 | refine (upd_ne rfl).trans ?_)); done) | simpa [upd, str_eq_iff] using e1)
    have e2' : upd (upd ρ' "_law_want" (.int n)) "_law_good" (.ref σ'.length) "_law_kinds_here" = some (.ref σ.length) := by (first | ((repeat (first | exact e2 | refine (upd_ne rfl).trans ?_)); done) | simpa [upd, str_eq_iff] using e2)
    have e3' : upd (upd ρ' "_law_want" (.int n)) "_law_good" (.ref σ'.length) "_law_free" = some (.ref (σ.length + 1)) := by (first | ((repeat (first | exact e3 | refine (upd_ne rfl).trans ?_)); done) | simpa [upd, str_eq_iff] using e3)
    have e4' : upd (upd ρ' "_law_want" (.int n)) "_law_good" (.ref σ'.length) "_law_turn" = some (.int d.length) := by (first | ((repeat (first | exact e4 | refine (upd_ne rfl).trans ?_)); done) | simpa [upd, str_eq_iff] using e4)
    generalize upd (upd ρ' "_law_want" (.int n)) "_law_good" (.ref σ'.length) = ρ2 at eg e1' e2' e3' e4'
    rw [wS_seq]
    refine wS_if_of (fun t σ4 => σ4 = σ3 ++ [.list []] ∧ t = (good == [])) ?_ ?_ ?_
    · have hnil : (σ3 ++ [AO.list []])[σ3.length]? = some (.list (([] : List Int).map .int)) := new_get
      simp (maxDischargeDepth := 9) only [List.zip_cons_cons, List.zip_nil_right, List.zip_nil_left, bindE, wS_seq_e, wS_assign_e, wS_if_e, wS_nil_e, wS_ret_e, thenS, wA_bin_e, wA_int_e, wA_bool_e, wA_none_e, wA_cmp_e, wA_bcmp_e, wA_bval_e, wA_bnot_e, wA_not_e, wA_neg_e, wA_band_nil_e, wA_band_cons_e, wA_bor_nil_e, wA_bor_cons_e, wA_vand1_e, wA_vand_e, wA_here_e, wA_there_e, str_eq_iff_e, String.reduceEq, not_false_eq_true, wA_list_e, wA_tup_e, wA_args_nil_e, wA_args_cons_e, wA_call_e, wA_sub_e, wA_isi_e, w2_add_e, w2_sub_e, w2_mod_e, w2_div_e, w2_mul_e, w2_pow_e, wC_lt_e, wC_gt_e, wC_ge_e, wC_eqi_e, wC_eqb_e, List.length_nil, List.length_cons, List.length_map, exp_int, exp_bool, exp_none, aTruth, Option.some.injEq, exL_e, Int.reduceLE, Int.reduceLT, Int.reduceEq, Int.reduceNe, ne_eq, and_true, true_and, Nat.reduceLeDiff, Nat.reduceAdd, Int.reduceNeg, Nat.reduceLT, and_self, nzl_e, wA_name eg, wC_eqL (app_get (τ := [AO.list []]) d0) hnil]
    · rintro _ ⟨rfl, ht⟩
      have hge : good = [] := by
        have := ht.symm; exact eq_of_beq this
      simp (maxDischargeDepth := 9) only [List.zip_cons_cons, List.zip_nil_right, List.zip_nil_left, bindE, wS_seq_e, wS_assign_e, wS_if_e, wS_nil_e, wS_ret_e, thenS, wA_bin_e, wA_int_e, wA_bool_e, wA_none_e, wA_cmp_e, wA_bcmp_e, wA_bval_e, wA_bnot_e, wA_not_e, wA_neg_e, wA_band_nil_e, wA_band_cons_e, wA_bor_nil_e, wA_bor_cons_e, wA_vand1_e, wA_vand_e, wA_here_e, wA_there_e, str_eq_iff_e, String.reduceEq, not_false_eq_true, wA_list_e, wA_tup_e, wA_args_nil_e, wA_args_cons_e, wA_call_e, wA_sub_e, wA_isi_e, w2_add_e, w2_sub_e, w2_mod_e, w2_div_e, w2_mul_e, w2_pow_e, wC_lt_e, wC_gt_e, wC_ge_e, wC_eqi_e, wC_eqb_e, List.length_nil, List.length_cons, List.length_map, exp_int, exp_bool, exp_none, aTruth, Option.some.injEq, exL_e, Int.reduceLE, Int.reduceLT, Int.reduceEq, Int.reduceNe, ne_eq, and_true, true_and, Nat.reduceLeDiff, Nat.reduceAdd, Int.reduceNeg, Nat.reduceLT, and_self, nzl_e]
      refine ⟨ext_app (hx.trans xg), _, _, rfl, ?_, rfl⟩
      rw [hG.fails he (by rw [hgd, hge]) hnb.1 hnb.2]
    · rintro _ ⟨rfl, ht⟩
      have hge : good ≠ [] := fun e => by rw [e] at ht; simp at ht
      have hgl : 0 < good.length := List.length_pos_iff.mpr hge
      simp only [wS_nil_e, thenS, wS_seq_e]
      have hq := fmod_lt (cellV sc (300 + d.length)) (b := good.length) (by exact ar_305 hgl)
      have hit : (good.map AV.int)[((cellV sc (300 + d.length)).fmod good.length).toNat]? = some (.int (good.getD ((cellV sc (300 + d.length)).fmod good.length).toNat 0)) := by
        have : ((cellV sc (300 + d.length)).fmod good.length).toNat < good.length := by exact ar_306 hq
        simp [this]
      have hin : good.getD ((cellV sc (300 + d.length)).fmod good.length).toNat 0 ∈ good := by
        have : ((cellV sc (300 + d.length)).fmod good.length).toNat < good.length := by exact ar_306 hq
        simp [this]
      generalize hrm : good.getD ((cellV sc (300 + d.length)).fmod good.length).toNat 0 = rm at hit hin
      obtain ⟨hF, hK⟩ := hgm rm hin
      have nz : ¬ (good.length : Int) = 0 := by exact ar_389 hgl
      have xs : Ext σ' (σ3 ++ [AO.list []]) := ext_app xg
      have dd := app_get (τ := [AO.list []]) d0
      generalize σ3 ++ [AO.list []] = σ4 at xs dd
      refine wS_remove e3' (xs.get f1) (by exact ar_390) ?_
      have hsc := (hx.trans xs).get h
      simp (maxDischargeDepth := 9) only [List.zip_cons_cons, List.zip_nil_right, List.zip_nil_left, bindE, wS_seq_e, wS_assign_e, wS_if_e, wS_nil_e, wS_ret_e, thenS, wA_bin_e, wA_int_e, wA_bool_e, wA_none_e, wA_cmp_e, wA_bcmp_e, wA_bval_e, wA_bnot_e, wA_not_e, wA_neg_e, wA_band_nil_e, wA_band_cons_e, wA_bor_nil_e, wA_bor_cons_e, wA_vand1_e, wA_vand_e, wA_here_e, wA_there_e, str_eq_iff_e, String.reduceEq, not_false_eq_true, wA_list_e, wA_tup_e, wA_args_nil_e, wA_args_cons_e, wA_call_e, wA_sub_e, wA_isi_e, w2_add_e, w2_sub_e, w2_mod_e, w2_div_e, w2_mul_e, w2_pow_e, wC_lt_e, wC_gt_e, wC_ge_e, wC_eqi_e, wC_eqb_e, List.length_nil, List.length_cons, List.length_map, exp_int, exp_bool, exp_none, aTruth, Option.some.injEq, exL_e, Int.reduceLE, Int.reduceLT, Int.reduceEq, Int.reduceNe, ne_eq, and_true, true_and, Nat.reduceLeDiff, Nat.reduceAdd, Int.reduceNeg, Nat.reduceLT, and_self, nzl_e, wA_name eg, wA_name e1', wA_name e4', wF_cell hsc (show (0 : Int) ≤ 300 + d.length by exact ar_391) (show (300 : Int) + d.length < 1000000 by exact ar_392 hdl) hl, wF_len dd, List.length_map, nz, w2_item dd hq.1 hit]
      refine ⟨rm, by trivial, hF, ?_⟩
      refine ⟨(hx.trans xs).set (by exact ar_390), set_get_ne (xs.get f0) (by exact ar_334), set_get_ne (xs.get f3) (by exact ar_393), by (first | ((repeat (first | exact e1' | refine (upd_ne rfl).trans ?_)); done) | simpa [upd, str_eq_iff] using e1'), by (first | ((repeat (first | exact e2' | refine (upd_ne rfl).trans ?_)); done) | simpa [upd, str_eq_iff] using e2'), by (first | ((repeat (first | exact e3' | refine (upd_ne rfl).trans ?_)); done) | simpa [upd, str_eq_iff] using e3'), by rw [upd_same]; simp, F.erase rm, set_get (xs.get f1), fun r hr => fb r (List.mem_of_mem_erase hr), hG.step hF hK⟩
  · rintro ρ' σ' ⟨hx, f0, f3, e1, e2, e3, e4, F, f1, fb, hG⟩
    simp (maxDischargeDepth := 9) only [List.zip_cons_cons, List.zip_nil_right, List.zip_nil_left, bindE, wS_seq_e, wS_assign_e, wS_if_e, wS_nil_e, wS_ret_e, thenS, wA_bin_e, wA_int_e, wA_bool_e, wA_none_e, wA_cmp_e, wA_bcmp_e, wA_bval_e, wA_bnot_e, wA_not_e, wA_neg_e, wA_band_nil_e, wA_band_cons_e, wA_bor_nil_e, wA_bor_cons_e, wA_vand1_e, wA_vand_e, wA_here_e, wA_there_e, str_eq_iff_e, String.reduceEq, not_false_eq_true, wA_list_e, wA_tup_e, wA_args_nil_e, wA_args_cons_e, wA_call_e, wA_sub_e, wA_isi_e, w2_add_e, w2_sub_e, w2_mod_e, w2_div_e, w2_mul_e, w2_pow_e, wC_lt_e, wC_gt_e, wC_ge_e, wC_eqi_e, wC_eqb_e, List.length_nil, List.length_cons, List.length_map, exp_int, exp_bool, exp_none, aTruth, Option.some.injEq, exL_e, Int.reduceLE, Int.reduceLT, Int.reduceEq, Int.reduceNe, ne_eq, and_true, true_and, Nat.reduceLeDiff, Nat.reduceAdd, Int.reduceNeg, Nat.reduceLT, and_self, nzl_e]
    refine ⟨hx, _, _, rfl, ?_, rfl⟩
    rw [short_none fun k => ?_]
    have := (hG k).2
    rw [atL_perm ((List.reverse_perm _).trans (sortI_perm _)) k] at this
    exact Nat.le_of_add_left_le this
end Inn
end
section
set_option maxRecDepth 10000
set_option linter.unusedVariables false
set_option linter.unusedSimpArgs false
namespace Inn
open PySem PySem.W
theorem w2_q0 {a b c d : AV} {σ Q} : w2 getI (.tup [a, b, c, d]) (.int 0) σ Q ↔ Q a σ := w2_quad (by decide) rfl
theorem w2_q0_e {a b c d : AV} {σ Q} : (w2 getI (.tup [a, b, c, d]) (.int 0) σ Q) = (Q a σ) := propext (w2_q0)
theorem w2_q1 {a b c d : AV} {σ Q} : w2 getI (.tup [a, b, c, d]) (.int 1) σ Q ↔ Q b σ := w2_quad (by decide) rfl
theorem w2_q1_e {a b c d : AV} {σ Q} : (w2 getI (.tup [a, b, c, d]) (.int 1) σ Q) = (Q b σ) := propext (w2_q1)
theorem w2_q2 {a b c d : AV} {σ Q} : w2 getI (.tup [a, b, c, d]) (.int 2) σ Q ↔ Q c σ := w2_quad (by decide) rfl
theorem w2_q2_e {a b c d : AV} {σ Q} : (w2 getI (.tup [a, b, c, d]) (.int 2) σ Q) = (Q c σ) := propext (w2_q2)
theorem wA_upTup3 {e m : AM AV} {a b c d : AV} {ρ σ Q} (h : wA e ρ σ fun v s => wA m ρ s fun u s2 => v = .tup [a, b, c, d] ∧ u = .int 3 ∧ Q (.tup [a, b, c]) s2) : wA (aUpTup e m) ρ σ Q := by
  unfold aUpTup
  rw [wA_bin]
  refine h.mono fun v s h => h.mono fun u s2 h => ?_
  obtain ⟨rfl, rfl, q⟩ := h
  exact ⟨_, _, rfl, q⟩
theorem wC_neO {o : Option Nat} {σ : Store} {Q} : wC cNe (optV o) (optV o) σ Q ↔ Q false := by
  cases o with
  | none => exact (wC_ne_of (v := true) rfl)
  | some k => exact (wC_ne_of (v := true) (by simp [optV, aEq]))
theorem wC_neO_e {o : Option Nat} {σ : Store} {Q} : (wC cNe (optV o) (optV o) σ Q) = (Q false) := propext (wC_neO)
theorem wC_isO {o : Option Nat} {σ : Store} {Q} : wC cIs (optV o) .none σ Q ↔ Q o.isNone := by
  cases o with
  | none => exact wC_is0
  | some k => exact wC_is1
theorem law_eq {σ : Store} {i : Nat} {sc : List Int} (h : σ[i]? = some (.list (sc.map .int))) (hl : sc.length ≤ 1000) : sp_law [.ref i] σ = some (.bool true, σ) := by
  obtain ⟨_, _, e0, ns, rs, W, H, N, rfl, rfl⟩ := night_ok h hl
  obtain ⟨⟨g1, g2⟩, g3⟩ := house_iff.1 N.house
  have x1 : Ext σ (σ ++ [AO.list (ns.map .int), .list (rs.map .int), .dict (inD W), .dict (inD H)]) := ext_self
  have k0 : (σ ++ [AO.list (ns.map .int), .list (rs.map .int), .dict (inD W), .dict (inD H)])[σ.length]? = some (.list (ns.map .int)) := by simp
  have k1 : (σ ++ [AO.list (ns.map .int), .list (rs.map .int), .dict (inD W), .dict (inD H)])[σ.length + 1]? = some (.list (rs.map .int)) := by simp
  have k2 : (σ ++ [AO.list (ns.map .int), .list (rs.map .int), .dict (inD W), .dict (inD H)])[σ.length + 2]? = some (.dict (inD W)) := by simp
  generalize σ ++ [AO.list (ns.map .int), .list (rs.map .int), .dict (inD W), .dict (inD H)] = σ1 at e0 x1 k0 k1 k2
  refine wF_get (wF_fn rfl ?_)
  have j1 := app_get (τ := [.list (ns.map .int)]) k1
  have j2 := app_get (τ := [.list (rs.map .int)]) (app_get (τ := [.list (ns.map .int)]) k2)
  simp (maxDischargeDepth := 9) only [List.zip_cons_cons, List.zip_nil_right, bindE, wS_seq_e, wS_assign_e, wA_call_e, wA_args_cons_e, wA_args_nil_e, wA_here_e, wA_there_e, wA_tup_e, wA_sub_e, wA_int_e, str_eq_iff_e, String.reduceEq, not_false_eq_true, thenS, wF_eq e0, w2_q0_e, w2_q1_e, w2_q2_e, wF_listL k0, wF_listL j1, wF_dictD j2, List.length_nil, List.length_cons, Nat.reduceAdd, Nat.reduceLeDiff, true_and]
  have x2 : Ext σ1 (σ1 ++ [AO.list (ns.map .int)] ++ [.list (rs.map .int)] ++ [.dict (inD W)]) := ext_app (ext_app ext_self)
  have h0 : (σ1 ++ [AO.list (ns.map .int)] ++ [.list (rs.map .int)] ++ [.dict (inD W)])[σ1.length]? = some (.list (ns.map .int)) := app_get (app_get new_get)
  have h1 : (σ1 ++ [AO.list (ns.map .int)] ++ [.list (rs.map .int)] ++ [.dict (inD W)])[(σ1 ++ [AO.list (ns.map .int)]).length]? = some (.list (rs.map .int)) := app_get new_get
  have h2 : (σ1 ++ [AO.list (ns.map .int)] ++ [.list (rs.map .int)] ++ [.dict (inD W)])[(σ1 ++ [AO.list (ns.map .int)] ++ [AO.list (rs.map .int)]).length]? = some (.dict (inD W)) := new_get
  generalize (σ1 ++ [AO.list (ns.map .int)] ++ [AO.list (rs.map .int)]).length = c at h2 ⊢
  generalize (σ1 ++ [AO.list (ns.map .int)]).length = b at h1 ⊢
  generalize σ1.length = a at h0 ⊢
  generalize σ1 ++ [AO.list (ns.map .int)] ++ [AO.list (rs.map .int)] ++ [.dict (inD W)] = σ2 at x2 h0 h1 h2 ⊢
  have hr : ∀ {σ' : Store} {Q}, Ext σ2 σ' → (wF sp_short_kind [.ref a, .ref b, .ref c] σ' Q ↔ Q (optV (shortV ns rs W)) σ') := fun hx => wF_shortKind (hx.get h0) (by exact ar_355 g2) (hx.get h1) N.rooms (hx.get h2) N.wN
  have hs : ∀ {σ' : Store} {Q}, Ext σ1 σ' → (wF sp_law_short [.ref σ.length, .ref (σ.length + 1), .ref (σ.length + 2)] σ' Q ↔ Q (optV (shortV ns rs W)) σ') := fun hx => wF_lawShort (hx.get k0) N.house (hx.get k1) N.rooms (hx.get k2)
  rw [w2_tup0, w2_tup1, w2_tup2, hr ext_refl, hs x2]
  generalize hρ : upd (upd (upd (upd (upd emp "_law_script" (.ref i)) "_law_night" (.tup [.ref σ.length, .ref (σ.length + 1), .ref (σ.length + 2), .ref (σ.length + 3)])) "_law_handed" (.tup [.ref a, .ref b, .ref c])) "_law_found" (optV (shortV ns rs W))) "_law_due" (optV (shortV ns rs W)) = ρ
  have eS : ρ "_law_script" = some (.ref i) := by rw [← hρ]; (first | ((repeat (first | exact upd_same | refine (upd_ne rfl).trans ?_)); done) | simp [upd, str_eq_iff])
  have eN : ρ "_law_night" = some (.tup [.ref σ.length, .ref (σ.length + 1), .ref (σ.length + 2), .ref (σ.length + 3)]) := by rw [← hρ]; (first | ((repeat (first | exact upd_same | refine (upd_ne rfl).trans ?_)); done) | simp [upd, str_eq_iff])
  have eH : ρ "_law_handed" = some (.tup [.ref a, .ref b, .ref c]) := by rw [← hρ]; (first | ((repeat (first | exact upd_same | refine (upd_ne rfl).trans ?_)); done) | simp [upd, str_eq_iff])
  have eF : ρ "_law_found" = some (optV (shortV ns rs W)) := by rw [← hρ]; (first | ((repeat (first | exact upd_same | refine (upd_ne rfl).trans ?_)); done) | simp [upd, str_eq_iff])
  have eD : ρ "_law_due" = some (optV (shortV ns rs W)) := by rw [← hρ]; (first | ((repeat (first | exact upd_same | refine (upd_ne rfl).trans ?_)); done) | simp [upd, str_eq_iff])
  clear hρ
  refine wS_if_of (fun t s => t = false ∧ s = σ2) ?_ ?_ ?_
  · rw [wA_bor_cons]
    have key : wA (bAnd [bCmp cIsNot (aName "_law_found") aNone, bNot (bVal (aCall sp_law_whole [aName "_law_found"]))]) ρ σ2 fun t s => t = false ∧ s = σ2 := by
      cases e : shortV ns rs W with
      | none =>
        rw [e] at eF
        simp (maxDischargeDepth := 9) only [List.zip_cons_cons, List.zip_nil_right, List.zip_nil_left, bindE, wS_seq_e, wS_assign_e, wS_if_e, wS_nil_e, wS_ret_e, thenS, wA_bin_e, wA_int_e, wA_bool_e, wA_none_e, wA_cmp_e, wA_bcmp_e, wA_bval_e, wA_bnot_e, wA_not_e, wA_neg_e, wA_band_nil_e, wA_band_cons_e, wA_bor_nil_e, wA_bor_cons_e, wA_vand1_e, wA_vand_e, wA_here_e, wA_there_e, str_eq_iff_e, String.reduceEq, not_false_eq_true, wA_list_e, wA_tup_e, wA_args_nil_e, wA_args_cons_e, wA_call_e, wA_sub_e, wA_isi_e, w2_add_e, w2_sub_e, w2_mod_e, w2_div_e, w2_mul_e, w2_pow_e, wC_lt_e, wC_gt_e, wC_ge_e, wC_eqi_e, wC_eqb_e, List.length_nil, List.length_cons, List.length_map, exp_int, exp_bool, exp_none, aTruth, Option.some.injEq, exL_e, Int.reduceLE, Int.reduceLT, Int.reduceEq, Int.reduceNe, ne_eq, and_true, true_and, Nat.reduceLeDiff, Nat.reduceAdd, Int.reduceNeg, Nat.reduceLT, and_self, nzl_e, wA_name eF, optV, wC_isnt0, Bool.false_eq_true, if_false]
      | some k =>
        rw [e] at eF
        simp (maxDischargeDepth := 9) only [List.zip_cons_cons, List.zip_nil_right, List.zip_nil_left, bindE, wS_seq_e, wS_assign_e, wS_if_e, wS_nil_e, wS_ret_e, thenS, wA_bin_e, wA_int_e, wA_bool_e, wA_none_e, wA_cmp_e, wA_bcmp_e, wA_bval_e, wA_bnot_e, wA_not_e, wA_neg_e, wA_band_nil_e, wA_band_cons_e, wA_bor_nil_e, wA_bor_cons_e, wA_vand1_e, wA_vand_e, wA_here_e, wA_there_e, str_eq_iff_e, String.reduceEq, not_false_eq_true, wA_list_e, wA_tup_e, wA_args_nil_e, wA_args_cons_e, wA_call_e, wA_sub_e, wA_isi_e, w2_add_e, w2_sub_e, w2_mod_e, w2_div_e, w2_mul_e, w2_pow_e, wC_lt_e, wC_gt_e, wC_ge_e, wC_eqi_e, wC_eqb_e, List.length_nil, List.length_cons, List.length_map, exp_int, exp_bool, exp_none, aTruth, Option.some.injEq, exL_e, Int.reduceLE, Int.reduceLT, Int.reduceEq, Int.reduceNe, ne_eq, and_true, true_and, Nat.reduceLeDiff, Nat.reduceAdd, Int.reduceNeg, Nat.reduceLT, and_self, nzl_e, wA_name eF, optV, wC_isnt1, if_true, wF_whole, Bool.not_true, Bool.false_eq_true, if_false]
    refine key.mono fun t σ2 ht => ?_
    obtain ⟨rfl, rfl⟩ := ht
    simp only [Bool.false_eq_true, if_false]
    simp (maxDischargeDepth := 9) only [wA_bor_cons_e, wA_bcmp_e, wA_name eF, wA_name eD, wC_neO_e, Bool.false_eq_true, if_false, wA_name eH]
    refine wA_upTup3 (a := .ref σ.length) (b := .ref (σ.length + 1)) (c := .ref (σ.length + 2)) (d := .ref (σ.length + 3)) ?_
    simp only [wA_name eN, wA_int_e, true_and]
    have he := aEq_trio (n := 5) (aEq_list (n := 3) h0 (x2.get k0)) (aEq_list (n := 3) h1 (x2.get k1)) (aEq_inD (n := 3) h2 (x2.get k2) N.wN)
    rw [wC_ne_of he]
    simp only [Bool.not_true, Bool.false_eq_true, if_false, wA_bor_nil_e, and_self]
  · rintro s ⟨ht, _⟩; cases ht
  rintro σ2 ⟨_, rfl⟩
  simp only [wS_nil_e, thenS, wS_seq_e]
  refine wS_if_of (fun t s => t = false ∧ Ext σ2 s) ?_ ?_ ?_
  · have d2 := app_get (τ := [.list ((W.map (·.1)).map .int)]) (x2.get k2)
    simp (maxDischargeDepth := 9) only [wA_bor_cons_e, wA_bcmp_e, wA_call_e, wA_args_cons_e, wA_args_nil_e, wA_sub_e, wA_int_e, wA_name eH, wA_name eN, wA_name eD, w2_tup0, w2_tup1, w2_tup2, w2_q2_e, hr ext_refl, wC_neO_e, Bool.false_eq_true, if_false, wF_listD h2]
    rw [inD_keys, wF_listD d2, inD_keys, wC_neL (app_get new_get) new_get]
    simp only [BEq.rfl, Bool.not_true, Bool.false_eq_true, if_false, wA_bor_nil_e]
    exact ⟨by trivial, ext_app ext_self⟩
  · rintro s ⟨ht, _⟩; cases ht
  rintro σ3 ⟨_, x3⟩
  have y3 := x2.trans x3
  have q := roomed_eq N ((x1.trans y3).get h) hl (y3.get k0) (y3.get k1) (y3.get k2)
  simp only [wS_nil_e, thenS, wS_seq_e]
  simp (maxDischargeDepth := 9) only [wS_ret_e, wA_cmp_e, wA_call_e, wA_args_cons_e, wA_args_nil_e, wA_sub_e, wA_int_e, wA_none_e, wA_name eS, wA_name eN, wA_name eD, w2_q0_e, w2_q1_e, w2_q2_e, wF_eq q, wC_isO, wC_eqb_e, BEq.rfl]
  exact ⟨x1.trans y3, _, _, rfl, rfl, rfl⟩
end Inn
end

open PySem PySem.W PyProof.Rows
set_option maxRecDepth 100000 in
set_option maxHeartbeats 8000000 in
theorem PySem.Challenge.cw_uf040026_03_holds : PySem.Challenge.rw_uf040026_03.Holds := by
  refine hd3 ?_
  k_fill
  intro w s₀ s₁ mg mb G Y fa o pm cd doc dV kV ho hd hcd hD hmg hg args vals as hpre hlay hrd hwl hlo
  have KX := kIn_of Y
  refine Ground.open G ?_
  intro T B D TE TW
  have hmg' : mg "law" = some (.ref fa) := hmg
  have hk : mg "law" = some (.ref 107) := mg_of (K := hd3.heap_39 w.params) KX T.g (by k_is)
  rw [hk] at hmg'
  cases hmg'
  wrow_args hpre hlay hrd hwl hlo
  all_goals (
    rename Well _ _ _ _ => hW
    rename ¬ _ < _ => h63
    refine Inn.law_end (K := hd3.heap_39 w.params) (k := 4) Inn.ok_law (by decide) ⟨KX, T.nolimit, ⟨mg, T.g⟩, ⟨mb, T.b, T.builtins⟩⟩ hW (by omega) hg (fun σ i h => Inn.law_eq h (by omega)) (fun _ => rfl) ?_ (fun _ => trivial)
    wrow_post)
