import Derived.Test.YtinkdfnpmoljfaaGreatDoorD2
import Derived.Test.YtinkdfnpmoljfaaGreatDoorFenX
import Derived.Test.YtinkdfnpmoljfaaGreatDoorIto
import Derived.Test.YtinkdfnpmoljfaaGreatDoorProg
import Derived.Test.YtinkdfnpmoljfaaGreatDoorP1
import Derived.Test.YtinkdfnpmoljfaaGreatDoorP2
import Derived.Test.YtinkdfnpmoljfaaGreatDoorP3
import Derived.Test.YtinkdfnpmoljfaaGreatDoorP4
import Derived.Test.YtinkdfnpmoljfaaGreatDoorP5
import Derived.Test.YtinkdfnpmoljfaaGreatDoorP6
import Derived.Test.YtinkdfnpmoljfaaGreatDoorP7
set_option linter.unusedVariables false
set_option linter.unusedSimpArgs false
set_option linter.unnecessarySimpa false
set_option maxRecDepth 100000
namespace Go.Proofs.YtinkdfnpmoljfaaGreatDoor
open Go Go.Fen
def ref04_attribute_l0 (m : Int) : Nat → Nat → Bool
 | 0, _ => false
 | fu1 + 1, k => (bif (decide ((k : Int) < 8)) then (bif (decide (m = (([1, 2, 4, 8, 16, 32, 64, 128] : List Int).getD k 0))) then true else ref04_attribute_l0 m fu1 (k + 1)) else false)
def ref04_attribute (m : Int) : Bool :=
 ref04_attribute_l0 m ((8 - 0) + 1) 0

def ref04_CheckPen_j1 (a : Act) (is : Bool) : Int :=
 (bif (((!decide (a.kind = 39)) || (!(decide (a.text = ([] : List UInt8))))) || (!is)) then 141 else 0)
def ref04_CheckPen_j2 (a : Act) (t72 : Bool) : Int :=
 (bif t72 then ref04_CheckPen_j1 a ((decide (a.m = 0)) && (decide ((ref03_Check a.color) = 0))) else ref04_CheckPen_j1 a false)
def ref04_CheckPen (a : Act) : Int :=
 (bif (decide (a.n = 0)) then ref04_CheckPen_j1 a ((decide (a.m = 0)) && (decide (a.color = Col.zero))) else (bif (decide (a.n = 1)) then ref04_CheckPen_j1 a ((ref04_attribute a.m) && (decide (a.color = Col.zero))) else (bif (decide (a.n = 2)) then ref04_CheckPen_j1 a (((decide (a.m = 3)) || (((ref04_attribute a.m) && (!decide (a.m = 1))) && (!decide (a.m = 2)))) && (decide (a.color = Col.zero))) else (bif (decide (a.n = 3)) then ref04_CheckPen_j1 a (((decide ((0 : Int) ≤ a.m)) && (decide (a.m ≤ 5))) && (decide (a.color = Col.zero))) else (bif (decide (a.n = 4)) then ref04_CheckPen_j2 a (decide (a.n = 4)) else (bif (decide (a.n = 5)) then ref04_CheckPen_j2 a (decide (a.n = 5)) else ref04_CheckPen_j2 a (decide (a.n = 6))))))))

def ref09_attrs : List Ar3 :=
 ([{ Ar3.zero with a := 1, b := 1, c := 22 }, { Ar3.zero with a := 2, b := 2, c := 22 }, { Ar3.zero with a := 3, b := 4, c := 23 }, { Ar3.zero with a := 5, b := 8, c := 25 }, { Ar3.zero with a := 7, b := 16, c := 27 }, { Ar3.zero with a := 8, b := 32, c := 28 }, { Ar3.zero with a := 9, b := 64, c := 29 }, { Ar3.zero with a := 53, b := 128, c := 55 }] : List Ar3)

def ref09_Param_l0 (a : Act) : List Ar3 → Nat → List Int
 | [], i => (bif (decide (a.n = 0)) then ([0] : List Int) else (bif ((decide (a.n = 3)) && (decide (a.m = 1))) then ([4] : List Int) else (bif ((decide (a.n = 3)) && (decide (a.m = 0))) then ([24] : List Int) else (bif (decide (a.n = 3)) then ([4, a.m] : List Int) else (bif (decide (a.color.kind = 0)) then ([(IntKind.i64.wrap ((IntKind.i64.wrap ((38 : Int) + (IntKind.i64.wrap ((10 : Int) * (IntKind.i64.wrap (a.n - (4 : Int))))))) + (1 : Int)))] : List Int) else (bif (decide (a.color.kind = 2)) then ([(IntKind.i64.wrap ((38 : Int) + (IntKind.i64.wrap ((10 : Int) * (IntKind.i64.wrap (a.n - (4 : Int))))))), 2, (-1), (IntKind.i64.wrap (Int.tdiv a.color.n 65536)), (Int.tmod (IntKind.i64.wrap (Int.tdiv a.color.n 256)) 256), (Int.tmod a.color.n 256)] : List Int) else (bif ((!decide (a.n = 6)) && (decide (a.color.n < 8))) then ([(IntKind.i64.wrap ((IntKind.i64.wrap ((IntKind.i64.wrap ((38 : Int) + (IntKind.i64.wrap ((10 : Int) * (IntKind.i64.wrap (a.n - (4 : Int))))))) - (8 : Int))) + a.color.n))] : List Int) else (bif ((!decide (a.n = 6)) && (decide (a.color.n < 16))) then ([(IntKind.i64.wrap ((IntKind.i64.wrap ((IntKind.i64.wrap ((38 : Int) + (IntKind.i64.wrap ((10 : Int) * (IntKind.i64.wrap (a.n - (4 : Int))))))) + (44 : Int))) + a.color.n))] : List Int) else ([(IntKind.i64.wrap ((38 : Int) + (IntKind.i64.wrap ((10 : Int) * (IntKind.i64.wrap (a.n - (4 : Int))))))), 5, a.color.n] : List Int)))))))))
 | hd_l0 :: tl_l0, i => (bif ((decide (a.n = 1)) && (decide (a.m = hd_l0.b))) then ([hd_l0.a] : List Int) else (bif ((decide (a.n = 2)) && ((decide (a.m = hd_l0.b)) || ((decide (a.m = 3)) && (decide ((i : Int) = 0))))) then ([hd_l0.c] : List Int) else ref09_Param_l0 a tl_l0 (i + 1)))
def ref09_Param (a : Act) : List Int :=
 (bindV ref09_attrs fun (y0 : List Ar3) => ref09_Param_l0 a y0 0)

end Go.Proofs.YtinkdfnpmoljfaaGreatDoor

