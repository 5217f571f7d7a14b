/-
  The numbers of the functions. Printed by a program of our own.
-/
import Derived.Test.YtmaigpiappmpcaaKFun
namespace Go.Proofs.Ytmaigpiappmpcaa
set_option maxRecDepth 100000

def num : Nat → FuncId
  | 3 => 62
  | 4 => 14
  | 26 => 80
  | 27 => 30
  | 28 => 113
  | 29 => 72
  | 30 => 23
  | 5 => 64
  | 6 => 16
  | 31 => 84
  | 32 => 35
  | 33 => 115
  | 34 => 76
  | 35 => 25
  | 2 => 63
  | 36 => 114
  | 37 => 73
  | 38 => 75
  | 39 => 74
  | 40 => 24
  | 1 => 65
  | 41 => 116
  | 42 => 77
  | 43 => 26
  | 9 => 67
  | 10 => 19
  | 11 => 88
  | 12 => 40
  | 13 => 110
  | 14 => 66
  | 15 => 18
  | 16 => 68
  | 17 => 20
  | 18 => 111
  | 19 => 69
  | 20 => 21
  | 21 => 70
  | 22 => 112
  | 23 => 71
  | 24 => 22
  | 44 => 4
  | _ => 1000000

end Go.Proofs.Ytmaigpiappmpcaa
