/- The functions of the laws as the interpreter computes them: definitions alone. -/
import Derived.Test.YtkimdfpmblhapaaA6
import Derived.Test.YtkimdfpmblhapaaProg
set_option linter.unusedVariables false
set_option linter.unusedSimpArgs false
set_option linter.constructorNameAsVariable false
set_option linter.unusedVariables false
namespace Go.Proofs.Ytkimdfpmblhapaa.Va
open Go.Proofs
def fc0 : FCfg := { arrs := [], own := [], roIn := [], ins := [], argArr := [], loop := fun _ => none, cut := fun _ => none, rcut := fun _ => none }
def c3_0 : FCfg := { fc0 with rcut := fun | 8 => some { slots := [(2, 4)], objs := [], toks := [] } | _ => none }
def c4_0 : FCfg := { fc0 with loop := fun | 8 => some { keep := [0, 3], keepO := [], head := { slots := [(6, 9), (7, 3)], objs := [], toks := [] }, exits := [(none, { slots := [(2, 4)], objs := [], toks := [] }), (some 0, { slots := [(6, 9)], objs := [], toks := [] })] } | _ => none, rcut := fun | 18 => some { slots := [(80, 4)], objs := [], toks := [] } | 22 => some { slots := [(2, 4)], objs := [], toks := [] } | _ => none }
def c5_0 : FCfg := { fc0 with rcut := fun | 9 => some { slots := [(2, 4)], objs := [], toks := [] } | _ => none }
def c6_0 : FCfg := { fc0 with rcut := fun | 2 => some { slots := [(0, 4)], objs := [], toks := [] } | _ => none }
def c7_0 : FCfg := { fc0 with loop := fun | 6 => some { keep := [0, 2, 5], keepO := [2], head := { slots := [(8, 23), (9, 3)], objs := [2], toks := [(8, none, false, 64), (2, some 3, false, 65)] }, exits := [(none, { slots := [(3, 3), (4, 26)], objs := [2], toks := [(2, some 3, false, 64)] }), (some 0, { slots := [(8, 23)], objs := [2], toks := [(8, none, false, 64), (2, some 3, false, 65)] })] } | _ => none }
def c8_0 : FCfg := { fc0 with loop := fun | 3 => some { keep := [1, 2, 5, 16, 17], keepO := [1, 2, 11, 14], head := { slots := [(18, 3)], objs := [2, 11], toks := [(2, some 3, false, 69)] }, exits := [(none, { slots := [(3, 3), (4, 26)], objs := [2, 11], toks := [(2, some 3, false, 69)] }), (some 0, { slots := [], objs := [2, 11], toks := [(2, some 3, false, 69)] })] } | _ => none }
def c9_0 : FCfg := { fc0 with loop := fun | 2 => some { keep := [1, 2], keepO := [1, 2], head := { slots := [(5, 3)], objs := [2], toks := [(2, some 3, false, 73)] }, exits := [(none, { slots := [(3, 3), (4, 26)], objs := [2], toks := [(2, some 3, false, 73)] }), (some 0, { slots := [], objs := [2], toks := [(2, some 3, false, 73)] })] } | 8 => some { keep := [1, 2, 6], keepO := [1, 2, 6], head := { slots := [(7, 3)], objs := [2, 6], toks := [(2, some 3, false, 74), (6, some 3, false, 73)] }, exits := [(none, { slots := [(3, 3), (4, 26)], objs := [2, 6], toks := [(2, some 3, false, 73), (6, some 3, false, 74)] }), (some 2, { slots := [], objs := [2, 6], toks := [(2, some 3, false, 73), (6, some 3, false, 74)] })] } | _ => none }
def c10_0 : FCfg := { fc0 with loop := fun | 4 => some { keep := [2, 3], keepO := [2, 3], head := { slots := [(5, 3)], objs := [], toks := [] }, exits := [(none, { slots := [(4, 4)], objs := [], toks := [] }), (some 0, { slots := [], objs := [], toks := [] })] } | _ => none, rcut := fun | 1 => some { slots := [(47, 4)], objs := [], toks := [] } | _ => none }
def c11_0 : FCfg := { fc0 with loop := fun | 5 => some { keep := [0], keepO := [], head := { slots := [(5, 32), (6, 3)], objs := [], toks := [(5, none, false, 47)] }, exits := [(none, { slots := [(2, 32), (3, 3), (4, 26)], objs := [], toks := [(2, none, false, 47)] }), (some 0, { slots := [(5, 32)], objs := [], toks := [(5, none, false, 47)] })] } | _ => none }
def c12_0 : FCfg := { fc0 with rcut := fun | 3 => some { slots := [(21, 4)], objs := [], toks := [] } | _ => none }
def c13_0 : FCfg := { fc0 with loop := fun | 4 => some { keep := [2, 3], keepO := [2, 3], head := { slots := [(5, 3)], objs := [], toks := [] }, exits := [(none, { slots := [(4, 4)], objs := [], toks := [] }), (some 0, { slots := [], objs := [], toks := [] })] } | _ => none, rcut := fun | 1 => some { slots := [(33, 4)], objs := [], toks := [] } | _ => none }
def c14_0 : FCfg := { fc0 with loop := fun | 3 => some { keep := [1, 2, 3], keepO := [1, 2, 3], head := { slots := [(4, 3)], objs := [3], toks := [(3, some 3, false, 29)] }, exits := [(some 0, { slots := [], objs := [3], toks := [(3, some 3, false, 29)] })] } | _ => none }
def c15_0 : FCfg := { fc0 with loop := fun | 6 => some { keep := [2, 3], keepO := [2, 3], head := { slots := [(5, 3)], objs := [], toks := [] }, exits := [(none, { slots := [(4, 4)], objs := [], toks := [] }), (some 0, { slots := [], objs := [], toks := [] })] } | _ => none, rcut := fun | 1 => some { slots := [(43, 4)], objs := [], toks := [] } | 3 => some { slots := [(61, 4)], objs := [], toks := [] } | _ => none }
def c16_0 : FCfg := { fc0 with rcut := fun | 1 => some { slots := [(15, 4)], objs := [], toks := [] } | _ => none }
def c17_0 : FCfg := { fc0 with loop := fun | 3 => some { keep := [1], keepO := [1], head := { slots := [(3, 3), (4, 3)], objs := [], toks := [] }, exits := [(some 0, { slots := [(3, 3)], objs := [], toks := [] })] } | _ => none, cut := fun | 7 => some { slots := [(3, 3)], objs := [], toks := [] } | _ => none }
def c18_2 : FCfg := { fc0 with roIn := [1], ins := [(0, 7, true)], loop := fun | 3 => some { keep := [0, 2, 10, 11], keepO := [0, 1], head := { slots := [(7, 23), (12, 3)], objs := [0], toks := [(7, none, false, 30), (0, some 7, true, 31)] }, exits := [(none, { slots := [(6, 23)], objs := [0], toks := [(6, none, false, 30), (0, some 7, true, 31)] }), (some 0, { slots := [(7, 23)], objs := [0], toks := [(7, none, false, 30), (0, some 7, true, 31)] })] } | _ => none }
def c18_5 : FCfg := { fc0 with roIn := [1, 2, 3, 4], ins := [(0, 7, true)], loop := fun | 3 => some { keep := [0, 2, 10, 11], keepO := [0, 1, 2, 3, 4], head := { slots := [(7, 23), (12, 3)], objs := [0], toks := [(7, none, false, 30), (0, some 7, true, 31)] }, exits := [(none, { slots := [(6, 23)], objs := [0], toks := [(6, none, false, 30), (0, some 7, true, 31)] }), (some 0, { slots := [(7, 23)], objs := [0], toks := [(7, none, false, 30), (0, some 7, true, 31)] })] } | _ => none }
def c18_6 : FCfg := { fc0 with roIn := [1, 2, 4, 5], ins := [(0, 7, true)], loop := fun | 3 => some { keep := [0, 2, 10, 11], keepO := [0, 1, 2, 3, 4, 5], head := { slots := [(7, 23), (12, 3)], objs := [0, 3], toks := [(7, none, false, 30), (0, some 7, true, 31)] }, exits := [(none, { slots := [(6, 23)], objs := [0, 3], toks := [(6, none, false, 30), (0, some 7, true, 31)] }), (some 0, { slots := [(7, 23)], objs := [0, 3], toks := [(7, none, false, 30), (0, some 7, true, 31)] })] } | _ => none }
def c19_2 : FCfg := { fc0 with arrs := [62], roIn := [1], ins := [(0, 7, true)], loop := fun | 14 => some { keep := [0, 3, 4, 5, 6, 48, 49], keepO := [0, 1, 5, 6, 7, 8], head := { slots := [(50, 3)], objs := [0], toks := [(0, some 7, true, 96)] }, exits := [(some 1, { slots := [], objs := [0], toks := [(0, some 7, true, 96)] })] } | _ => none }
def c20_0 : FCfg := { fc0 with loop := fun | 2 => some { keep := [1, 2], keepO := [2], head := { slots := [(5, 3)], objs := [], toks := [] }, exits := [(none, { slots := [(4, 3)], objs := [], toks := [] }), (some 0, { slots := [], objs := [], toks := [] })] } | _ => none }
def c21_0 : FCfg := { fc0 with loop := fun | 17 => some { keep := [2, 3, 4, 11, 12], keepO := [2, 3, 4, 11, 12], head := { slots := [(13, 45), (14, 3)], objs := [], toks := [(13, none, false, 144)] }, exits := [(some 0, { slots := [(13, 45)], objs := [], toks := [(13, none, false, 144)] })] } | _ => none }
def c22_0 : FCfg := { fc0 with loop := fun | 1 => some { keep := [0], keepO := [], head := { slots := [(1, 3)], objs := [], toks := [] }, exits := [(none, { slots := [(4, 3)], objs := [], toks := [] }), (some 0, { slots := [(1, 3)], objs := [], toks := [] })] } | 5 => some { keep := [0], keepO := [], head := { slots := [(1, 3)], objs := [], toks := [] }, exits := [(some 2, { slots := [(1, 3)], objs := [], toks := [] })] } | _ => none, rcut := fun | 5 => some { slots := [(27, 4)], objs := [], toks := [] } | _ => none }
def c23_0 : FCfg := { fc0 with loop := fun | 4 => some { keep := [0, 1, 4], keepO := [4], head := { slots := [(7, 3)], objs := [], toks := [] }, exits := [(some 0, { slots := [(7, 3)], objs := [], toks := [] })] } | 13 => some { keep := [0, 1, 4], keepO := [4], head := { slots := [(7, 3)], objs := [], toks := [] }, exits := [(some 2, { slots := [(7, 3)], objs := [], toks := [] })] } | 21 => some { keep := [0, 1, 4, 11], keepO := [4], head := { slots := [(12, 3)], objs := [4], toks := [] }, exits := [(none, { slots := [(5, 26)], objs := [4], toks := [] }), (some 4, { slots := [], objs := [4], toks := [] })] } | _ => none, rcut := fun | 4 => some { slots := [(34, 4)], objs := [], toks := [] } | 13 => some { slots := [(68, 4)], objs := [], toks := [] } | _ => none }
def c25_0 : FCfg := { fc0 with rcut := fun | 1 => some { slots := [(6, 4)], objs := [], toks := [] } | _ => none }
def c26_0 : FCfg := { fc0 with cut := fun | 5 => some { slots := [(5, 3), (6, 9)], objs := [], toks := [] } | 10 => some { slots := [], objs := [7], toks := [] } | 12 => some { slots := [], objs := [7], toks := [] } | _ => none, rcut := fun | 11 => some { slots := [(52, 4)], objs := [], toks := [] } | _ => none }
def c30_0 : FCfg := { fc0 with rcut := fun | 1 => some { slots := [(6, 4)], objs := [], toks := [] } | _ => none }
def c31_0 : FCfg := { fc0 with loop := fun | 2 => some { keep := [0], keepO := [], head := { slots := [(7, 23), (1, 3)], objs := [], toks := [(7, none, false, 49)] }, exits := [(none, { slots := [(4, 23), (5, 3), (6, 26)], objs := [], toks := [(4, none, false, 49)] }), (some 0, { slots := [(7, 23), (1, 3)], objs := [], toks := [(7, none, false, 49)] })] } | _ => none, rcut := fun | 2 => some { slots := [(18, 4)], objs := [], toks := [] } | _ => none }
def c33_2 : FCfg := { fc0 with roIn := [1], ins := [(0, 7, true)] }
def c34_2 : FCfg := { fc0 with roIn := [1], ins := [(0, 7, true)], cut := fun | 10 => some { slots := [(29, 4)], objs := [], toks := [] } | 14 => some { slots := [], objs := [8], toks := [] } | 16 => some { slots := [], objs := [8], toks := [] } | _ => none, rcut := fun | 13 => some { slots := [(52, 4)], objs := [], toks := [] } | 15 => some { slots := [(62, 4)], objs := [], toks := [] } | _ => none }
def c35_2 : FCfg := { fc0 with roIn := [1], ins := [(0, 7, true)] }
def c36_0 : FCfg := { fc0 with loop := fun | 3 => some { keep := [1, 2, 3], keepO := [3], head := { slots := [(9, 23), (10, 3)], objs := [], toks := [(9, none, false, 71)] }, exits := [(none, { slots := [(6, 23), (7, 3), (8, 26)], objs := [], toks := [] }), (some 0, { slots := [(9, 23)], objs := [], toks := [(9, none, false, 71)] })] } | 6 => some { keep := [1, 2, 3, 9, 10], keepO := [3], head := { slots := [(11, 3)], objs := [], toks := [] }, exits := [(none, { slots := [(6, 23), (7, 3), (8, 26)], objs := [], toks := [] }), (some 2, { slots := [], objs := [], toks := [] })] } | _ => none, cut := fun | 14 => some { slots := [], objs := [12], toks := [] } | _ => none }
def c37_0 : FCfg := { fc0 with loop := fun | 12 => some { keep := [1, 3, 5, 6, 7], keepO := [3, 5, 6, 7], head := { slots := [(8, 45), (9, 3)], objs := [6, 7], toks := [(6, some 3, false, 140), (7, some 3, false, 141)] }, exits := [(none, { slots := [], objs := [6, 7], toks := [(7, some 3, false, 139)] }), (some 0, { slots := [], objs := [6, 7], toks := [(6, some 3, false, 139), (7, some 3, false, 140)] })] } | _ => none, cut := fun | 5 => some { slots := [], objs := [7], toks := [(7, some 3, false, 139)] } | 21 => some { slots := [(8, 45)], objs := [], toks := [] } | _ => none, rcut := fun | 4 => some { slots := [(35, 4)], objs := [], toks := [] } | 6 => some { slots := [(65, 4)], objs := [], toks := [] } | 8 => some { slots := [(80, 4)], objs := [], toks := [] } | _ => none }
def c38_0 : FCfg := { fc0 with rcut := fun | 1 => some { slots := [(2, 4)], objs := [], toks := [] } | _ => none }
def c39_0 : FCfg := { fc0 with rcut := fun | 1 => some { slots := [(6, 4)], objs := [], toks := [] } | _ => none }
def c40_0 : FCfg := { fc0 with rcut := fun | 1 => some { slots := [(2, 4)], objs := [], toks := [] } | _ => none }
def c41_0 : FCfg := { fc0 with rcut := fun | 1 => some { slots := [(2, 4)], objs := [], toks := [] } | _ => none }
def c42_0 : FCfg := { fc0 with loop := fun | 2 => some { keep := [0, 1], keepO := [], head := { slots := [(5, 3)], objs := [], toks := [] }, exits := [(none, { slots := [(4, 4)], objs := [], toks := [] }), (some 0, { slots := [], objs := [], toks := [] })] } | _ => none }
def c44_0 : FCfg := { fc0 with loop := fun | 5 => some { keep := [0], keepO := [], head := { slots := [(4, 2), (5, 3)], objs := [], toks := [] }, exits := [(none, { slots := [(2, 2), (3, 4)], objs := [], toks := [] }), (some 0, { slots := [(4, 2)], objs := [], toks := [] })] } | _ => none, rcut := fun | 1 => some { slots := [(19, 4)], objs := [], toks := [] } | _ => none }
def c47_0 : FCfg := { fc0 with cut := fun | 17 => some { slots := [], objs := [6], toks := [] } | _ => none, rcut := fun | 10 => some { slots := [(57, 4)], objs := [], toks := [] } | 14 => some { slots := [(82, 4)], objs := [], toks := [] } | _ => none }
def c48_0 : FCfg := { fc0 with loop := fun | 7 => some { keep := [0, 1, 4], keepO := [4], head := { slots := [(5, 23), (6, 3), (7, 4)], objs := [4], toks := [(5, none, false, 55), (4, some 3, false, 56)] }, exits := [(none, { slots := [], objs := [4], toks := [] }), (some 0, { slots := [(5, 23), (6, 3)], objs := [4], toks := [(5, none, false, 55), (4, some 3, false, 56)] })] } | _ => none, cut := fun | 15 => some { slots := [(6, 3)], objs := [], toks := [] } | _ => none }
def c49_0 : FCfg := { fc0 with loop := fun | 5 => some { keep := [0, 1, 4], keepO := [4], head := { slots := [(5, 23), (6, 3)], objs := [4], toks := [(5, none, false, 41), (4, some 3, false, 42)] }, exits := [(none, { slots := [], objs := [4], toks := [] }), (some 0, { slots := [(5, 23), (6, 3)], objs := [4], toks := [(5, none, false, 41), (4, some 3, false, 42)] })] } | _ => none }
def c51_6 : FCfg := { fc0 with roIn := [0, 2, 4, 5], ins := [(3, 7, true)], cut := fun | 7 => some { slots := [], objs := [12], toks := [] } | _ => none }
def c52_2 : FCfg := { fc0 with roIn := [1], ins := [(0, 7, true)] }
def c53_2 : FCfg := { fc0 with roIn := [1], ins := [(0, 7, true)], loop := fun | 3 => some { keep := [0, 3, 4, 5], keepO := [0, 1, 5, 6, 7], head := { slots := [(6, 3)], objs := [7, 6], toks := [(7, some 3, false, 60), (6, some 3, false, 61)] }, exits := [(none, { slots := [], objs := [7, 6], toks := [(7, some 3, false, 60)] }), (some 0, { slots := [], objs := [7, 6], toks := [(7, some 3, false, 60), (6, some 3, false, 61)] })] } | _ => none, cut := fun | 11 => some { slots := [], objs := [7], toks := [] } | _ => none }
def c54_2 : FCfg := { fc0 with roIn := [1], ins := [(0, 7, true)], loop := fun | 4 => some { keep := [0, 4, 8, 23, 24], keepO := [0, 1, 6], head := { slots := [(25, 3)], objs := [], toks := [] }, exits := [(none, { slots := [(6, 3), (7, 3)], objs := [], toks := [] }), (some 0, { slots := [], objs := [], toks := [] })] } | _ => none }
def c55_2 : FCfg := { fc0 with arrs := [27], roIn := [1], ins := [(0, 7, true)], cut := fun | 5 => some { slots := [(13, 4)], objs := [], toks := [] } | 10 => some { slots := [(31, 4)], objs := [], toks := [] } | 11 => some { slots := [(31, 4)], objs := [], toks := [] } | _ => none }
def c59_0 : FCfg := { fc0 with rcut := fun | 1 => some { slots := [(12, 4)], objs := [], toks := [] } | _ => none }
def c61_0 : FCfg := { fc0 with cut := fun | 13 => some { slots := [(5, 3), (7, 4)], objs := [], toks := [] } | _ => none, rcut := fun | 8 => some { slots := [(36, 4)], objs := [], toks := [] } | _ => none }
def c62_0 : FCfg := { fc0 with loop := fun | 8 => some { keep := [0, 1, 4, 5, 6], keepO := [4], head := { slots := [(9, 3), (8, 9), (7, 23), (10, 3)], objs := [4], toks := [(7, none, false, 139), (4, some 3, false, 140)] }, exits := [(none, { slots := [], objs := [4], toks := [] }), (some 0, { slots := [(9, 3), (8, 9), (7, 23)], objs := [4], toks := [(7, none, false, 139), (4, some 3, false, 140)] })] } | _ => none, cut := fun | 24 => some { slots := [(9, 3)], objs := [], toks := [] } | _ => none, rcut := fun | 11 => some { slots := [(44, 4)], objs := [], toks := [] } | 12 => some { slots := [(72, 4)], objs := [], toks := [] } | 20 => some { slots := [(100, 4)], objs := [], toks := [] } | _ => none }
def c63_2 : FCfg := { fc0 with roIn := [1], ins := [(0, 7, true)] }
def c64_0 : FCfg := { fc0 with loop := fun | 2 => some { keep := [0, 1], keepO := [], head := { slots := [(5, 3)], objs := [], toks := [] }, exits := [(none, { slots := [(4, 3)], objs := [], toks := [] }), (some 0, { slots := [], objs := [], toks := [] })] } | _ => none }
def c65_0 : FCfg := { fc0 with loop := fun | 5 => some { keep := [0, 1, 2, 6, 7], keepO := [6, 7], head := { slots := [(8, 3)], objs := [6, 7], toks := [(6, some 3, false, 65)] }, exits := [(none, { slots := [], objs := [6, 7], toks := [] }), (some 0, { slots := [], objs := [6, 7], toks := [(6, some 3, false, 65)] })] } | _ => none, rcut := fun | 7 => some { slots := [(38, 4)], objs := [], toks := [] } | _ => none }
def c66_0 : FCfg := { fc0 with rcut := fun | 3 => some { slots := [(30, 4)], objs := [], toks := [] } | _ => none }
def c67_0 : FCfg := { fc0 with rcut := fun | 7 => some { slots := [(30, 4)], objs := [], toks := [] } | _ => none }
def c69_5 : FCfg := { fc0 with arrs := [22], roIn := [0, 2, 3, 4], ins := [(1, 7, true)] }
def c70_0 : FCfg := { fc0 with cut := fun | 3 => some { slots := [(5, 2)], objs := [], toks := [] } | 5 => some { slots := [(5, 2)], objs := [], toks := [] } | _ => none }
def c71_0 : FCfg := { fc0 with loop := fun | 3 => some { keep := [0, 1, 7, 8], keepO := [], head := { slots := [(9, 3)], objs := [], toks := [] }, exits := [(none, { slots := [(6, 2)], objs := [], toks := [] }), (some 0, { slots := [], objs := [], toks := [] })] } | _ => none }
def c72_0 : FCfg := { fc0 with loop := fun | 2 => some { keep := [0], keepO := [], head := { slots := [(7, 23), (1, 3)], objs := [], toks := [(7, none, false, 37)] }, exits := [(none, { slots := [(4, 23), (5, 3), (6, 26)], objs := [], toks := [(4, none, false, 37)] })] } | _ => none }
def c73_0 : FCfg := { fc0 with loop := fun | 2 => some { keep := [0, 1, 4, 5], keepO := [4, 5], head := { slots := [], objs := [4, 5], toks := [(4, some 3, false, 75)] }, exits := [(none, { slots := [], objs := [4, 5], toks := [] }), (some 0, { slots := [], objs := [4, 5], toks := [(4, some 3, false, 75)] })] } | _ => none }
def cf : FuncId → Nat → FCfg := fun f m => match f with
  | 3 => if m = 0 then c3_0 else fc0
  | 4 => if m = 0 then c4_0 else fc0
  | 5 => if m = 0 then c5_0 else fc0
  | 6 => if m = 0 then c6_0 else fc0
  | 7 => if m = 0 then c7_0 else fc0
  | 8 => if m = 0 then c8_0 else fc0
  | 9 => if m = 0 then c9_0 else fc0
  | 10 => if m = 0 then c10_0 else fc0
  | 11 => if m = 0 then c11_0 else fc0
  | 12 => if m = 0 then c12_0 else fc0
  | 13 => if m = 0 then c13_0 else fc0
  | 14 => if m = 0 then c14_0 else fc0
  | 15 => if m = 0 then c15_0 else fc0
  | 16 => if m = 0 then c16_0 else fc0
  | 17 => if m = 0 then c17_0 else fc0
  | 18 => if m = 2 then c18_2 else if m = 5 then c18_5 else if m = 6 then c18_6 else fc0
  | 19 => if m = 2 then c19_2 else fc0
  | 20 => if m = 0 then c20_0 else fc0
  | 21 => if m = 0 then c21_0 else fc0
  | 22 => if m = 0 then c22_0 else fc0
  | 23 => if m = 0 then c23_0 else fc0
  | 25 => if m = 0 then c25_0 else fc0
  | 26 => if m = 0 then c26_0 else fc0
  | 30 => if m = 0 then c30_0 else fc0
  | 31 => if m = 0 then c31_0 else fc0
  | 33 => if m = 2 then c33_2 else fc0
  | 34 => if m = 2 then c34_2 else fc0
  | 35 => if m = 2 then c35_2 else fc0
  | 36 => if m = 0 then c36_0 else fc0
  | 37 => if m = 0 then c37_0 else fc0
  | 38 => if m = 0 then c38_0 else fc0
  | 39 => if m = 0 then c39_0 else fc0
  | 40 => if m = 0 then c40_0 else fc0
  | 41 => if m = 0 then c41_0 else fc0
  | 42 => if m = 0 then c42_0 else fc0
  | 44 => if m = 0 then c44_0 else fc0
  | 47 => if m = 0 then c47_0 else fc0
  | 48 => if m = 0 then c48_0 else fc0
  | 49 => if m = 0 then c49_0 else fc0
  | 51 => if m = 6 then c51_6 else fc0
  | 52 => if m = 2 then c52_2 else fc0
  | 53 => if m = 2 then c53_2 else fc0
  | 54 => if m = 2 then c54_2 else fc0
  | 55 => if m = 2 then c55_2 else fc0
  | 59 => if m = 0 then c59_0 else fc0
  | 61 => if m = 0 then c61_0 else fc0
  | 62 => if m = 0 then c62_0 else fc0
  | 63 => if m = 2 then c63_2 else fc0
  | 64 => if m = 0 then c64_0 else fc0
  | 65 => if m = 0 then c65_0 else fc0
  | 66 => if m = 0 then c66_0 else fc0
  | 67 => if m = 0 then c67_0 else fc0
  | 69 => if m = 5 then c69_5 else fc0
  | 70 => if m = 0 then c70_0 else fc0
  | 71 => if m = 0 then c71_0 else fc0
  | 72 => if m = 0 then c72_0 else fc0
  | 73 => if m = 0 then c73_0 else fc0
  | _ => fc0
def s0 : Sh := ⟨false, [.str]⟩
def s1 : Sh := ⟨false, [.sl 37]⟩
def s2 : Sh := ⟨true, [.int .i64, .int .i64, .str, .sl 25, .int .i64, .int .i64]⟩
def s3 : Sh := ⟨false, [.sl 25]⟩
def s4 : Sh := ⟨false, [.int .i64]⟩
def s5 : Sh := ⟨true, [.x, .int .i64, .int .i64, .str, .sl 25, .int .i64, .int .i64, .sl 9, .int .i64, .int .i64]⟩
def s6 : Sh := ⟨true, [.int .i64, .int .i64, .str, .int .i64, .int .i64]⟩
def s7 : Sh := ⟨true, [.int .i64, .int .i64, .str, .sl 25, .int .i64, .int .i64, .int .i64, .int .i64]⟩
def s8 : Sh := ⟨false, [.sl 9]⟩
def s9 : Sh := ⟨false, [.bool]⟩
def s10 : Sh := ⟨false, [.int .u8]⟩
def s11 : Sh := ⟨false, [.sl 87]⟩
def s12 : Sh := ⟨false, [.x]⟩
def s13 : Sh := ⟨false, [.sl 3]⟩
def s14 : Sh := ⟨false, [.sl 2]⟩
abbrev rt (i : Nat) (l : List D) : Option R := some (i, l)
def stOf (nb tb n : Nat) (sl : List (Nat × AV)) (hp : List (Nat × Ob)) (tk : List (Nat × Bool)) (pr prM prS prT : List Nat) : St :=
  { nb, tb, fr := putAll (repA .undef n) sl, hp := putAll (repA none (nb + n)) (hp.map fun x => (x.1, some x.2)), tk := putAll (repA none (tb + n + 32)) (tk.map fun x => (x.1, some x.2)), prot := pr, protM := prM, protS := prS, protT := prT }
noncomputable def F3 (n : Nat) (a0 : D) : Option R := run Try.prog cf n 3 [.dt s0 a0 (roAps s0.ks)] []
noncomputable def F4 (n : Nat) (a0 : D) : Option R := run Try.prog cf n 4 [.dt s0 a0 (roAps s0.ks)] []
noncomputable def L4_8 (n : Nat) (x0 x1 : D) (k : Nat) (ds : List D) : Option R := loopF Try.prog cf n 4 8 (stOf 0 0 107 [(0, .dt s0 x0 (roAps s0.ks)), (3, .dt s1 x1 (roAps s1.ks))] [] [] [] [] [0, 3] []) k ds
noncomputable def F5 (n : Nat) (a0 : D) : Option R := run Try.prog cf n 5 [.dt s0 a0 (roAps s0.ks)] []
noncomputable def F6 (n : Nat) : Option R := run Try.prog cf n 6 [] []
noncomputable def F7 (n : Nat) (a0 : D) : Option R := run Try.prog cf n 7 [.dt s0 a0 (roAps s0.ks)] []
noncomputable def L7_6 (n : Nat) (x0 x1 : D) (k : Nat) (ds : List D) : Option R := loopF Try.prog cf n 7 6 (stOf 0 0 64 [(0, .dt s0 x0 (roAps s0.ks)), (2, xv (.ptr 2 0)), (5, .dt s1 x1 (roAps s1.ks))] [(2, .cells s2 (D.int (0 : Int)) (roAps s2.ks))] [] [] [2] [0, 2, 5] []) k ds
noncomputable def F8 (n : Nat) (a0 : D) : Option R := run Try.prog cf n 8 [.dt s2 a0 (roAps s2.ks)] []
noncomputable def L8_3 (n : Nat) (x0 x1 x2 x3 : D) (k : Nat) (ds : List D) : Option R := loopF Try.prog cf n 8 3 (stOf 0 0 69 [(1, xv (.ptr 1 0)), (2, xv (.ptr 2 0)), (5, xv (.ptr 14 0)), (16, .dt s3 x0 (roAps s3.ks)), (17, .dt s4 x1 (roAps s4.ks))] [(1, .cells s2 x2 (roAps s2.ks)), (2, .cells s2 (D.int (0 : Int)) (roAps s2.ks)), (11, .map 9 3 (D.int (0 : Int))), (14, .cells s5 x3 [.x (.mp 11), .ro, .ro, .ro, .ro, .ro, .ro, .nl, .ro, .ro])] [] [1, 14] [1, 2, 11, 14] [1, 2, 5, 16, 17] []) k ds
noncomputable def F9 (n : Nat) (a0 : D) : Option R := run Try.prog cf n 9 [.dt s2 a0 (roAps s2.ks)] []
noncomputable def L9_2 (n : Nat) (x0 : D) (k : Nat) (ds : List D) : Option R := loopF Try.prog cf n 9 2 (stOf 0 0 73 [(1, xv (.ptr 1 0)), (2, xv (.ptr 2 0))] [(1, .cells s2 x0 (roAps s2.ks)), (2, .cells s2 (D.int (0 : Int)) (roAps s2.ks))] [] [1] [1, 2] [1, 2] []) k ds
noncomputable def L9_8 (n : Nat) (x0 : D) (k : Nat) (ds : List D) : Option R := loopF Try.prog cf n 9 8 (stOf 0 0 73 [(1, xv (.ptr 1 0)), (2, xv (.ptr 2 0)), (6, xv (.ptr 6 0))] [(1, .cells s2 x0 (roAps s2.ks)), (2, .cells s2 (D.int (0 : Int)) (roAps s2.ks)), (6, .cells s2 (D.int (0 : Int)) (roAps s2.ks))] [] [1] [1, 2, 6] [1, 2, 6] []) k ds
noncomputable def F10 (n : Nat) (a0 a1 : D) : Option R := run Try.prog cf n 10 [.dt s2 a0 (roAps s2.ks), .dt s2 a1 (roAps s2.ks)] []
noncomputable def L10_4 (n : Nat) (x0 x1 : D) (k : Nat) (ds : List D) : Option R := loopF Try.prog cf n 10 4 (stOf 0 0 67 [(2, xv (.ptr 2 0)), (3, xv (.ptr 3 0))] [(2, .cells s2 x0 (roAps s2.ks)), (3, .cells s2 x1 (roAps s2.ks))] [] [2, 3] [2, 3] [2, 3] []) k ds
noncomputable def F11 (n : Nat) (a0 : D) : Option R := run Try.prog cf n 11 [.dt s0 a0 (roAps s0.ks)] []
noncomputable def L11_5 (n : Nat) (x0 : D) (k : Nat) (ds : List D) : Option R := loopF Try.prog cf n 11 5 (stOf 0 0 47 [(0, .dt s0 x0 (roAps s0.ks))] [] [] [] [] [0] []) k ds
noncomputable def F12 (n : Nat) (a0 : D) : Option R := run Try.prog cf n 12 [.dt s6 a0 (roAps s6.ks)] []
noncomputable def F14 (n : Nat) (a0 : D) : Option R := run Try.prog cf n 14 [.dt s2 a0 (roAps s2.ks)] []
noncomputable def L14_3 (n : Nat) (x0 x1 : D) (k : Nat) (ds : List D) : Option R := loopF Try.prog cf n 14 3 (stOf 0 0 29 [(1, xv (.ptr 1 0)), (2, xv (.ptr 2 0)), (3, xv (.ptr 3 0))] [(1, .cells s2 x0 (roAps s2.ks)), (2, .cells s2 x1 [.ro, .ro, .ro, .nl, .ro, .ro]), (3, .cells s2 (D.int (0 : Int)) (roAps s2.ks))] [] [1, 2] [1, 2, 3] [1, 2, 3] []) k ds
noncomputable def F13 (n : Nat) (a0 a1 : D) : Option R := run Try.prog cf n 13 [.dt s2 a0 (roAps s2.ks), .dt s2 a1 (roAps s2.ks)] []
noncomputable def L13_4 (n : Nat) (x0 x1 : D) (k : Nat) (ds : List D) : Option R := loopF Try.prog cf n 13 4 (stOf 0 0 53 [(2, xv (.ptr 2 0)), (3, xv (.ptr 3 0))] [(2, .cells s2 x0 (roAps s2.ks)), (3, .cells s2 x1 (roAps s2.ks))] [] [2, 3] [2, 3] [2, 3] []) k ds
noncomputable def F15 (n : Nat) (a0 a1 : D) : Option R := run Try.prog cf n 15 [.dt s2 a0 (roAps s2.ks), .dt s2 a1 (roAps s2.ks)] []
noncomputable def L15_6 (n : Nat) (x0 x1 : D) (k : Nat) (ds : List D) : Option R := loopF Try.prog cf n 15 6 (stOf 0 0 81 [(2, xv (.ptr 2 0)), (3, xv (.ptr 3 0))] [(2, .cells s2 x0 (roAps s2.ks)), (3, .cells s2 x1 (roAps s2.ks))] [] [2, 3] [2, 3] [2, 3] []) k ds
noncomputable def F16 (n : Nat) (a0 a1 : D) : Option R := run Try.prog cf n 16 [.dt s1 a0 (roAps s1.ks), .dt s4 a1 (roAps s4.ks)] []
noncomputable def F17 (n : Nat) (a0 : D) : Option R := run Try.prog cf n 17 [.dt s2 a0 (roAps s2.ks)] []
noncomputable def L17_3 (n : Nat) (x0 : D) (k : Nat) (ds : List D) : Option R := loopF Try.prog cf n 17 3 (stOf 0 0 25 [(1, xv (.ptr 1 0))] [(1, .cells s2 x0 (roAps s2.ks))] [] [1] [1] [1] []) k ds
noncomputable def F18 (n : Nat) (a1 o0 o1 : D) : Option R := run Try.prog cf n 18 [xv (.ptr 0 0), .dt s3 a1 (roAps s3.ks), xv (.fn 19 [.ptr 0 0] [])] [.cells s5 o0 [.x (.mp 1), .ro, .ro, .ro, .ro, .ro, .ro, .arr 0, .ro, .ro], .map 9 3 o1]
noncomputable def L18_3 (n : Nat) (x0 x1 x2 : D) (k : Nat) (ds : List D) : Option R := loopF Try.prog cf n 18 3 (stOf 2 1 29 [(0, xv (.ptr 0 0)), (2, xv (.fn 19 [.ptr 0 0] [])), (10, .dt s3 x0 (roAps s3.ks)), (11, .dt s4 x1 (roAps s4.ks))] [(0, .cells s5 (D.int (0 : Int)) [.x (.mp 1), .ro, .ro, .ro, .ro, .ro, .ro, .dead, .ro, .ro]), (1, .map 9 3 x2)] [] [1, 1] [0, 1, 0, 1] [0, 2, 10, 11] []) k ds
noncomputable def F20 (n : Nat) (a0 a1 : D) : Option R := run Try.prog cf n 20 [.dt s2 a0 (roAps s2.ks), .dt s0 a1 (roAps s0.ks)] []
noncomputable def L20_2 (n : Nat) (x0 x1 : D) (k : Nat) (ds : List D) : Option R := loopF Try.prog cf n 20 2 (stOf 0 0 22 [(1, .dt s0 x0 (roAps s0.ks)), (2, xv (.ptr 2 0))] [(2, .cells s2 x1 (roAps s2.ks))] [] [2] [2] [1, 2] []) k ds
noncomputable def F21 (n : Nat) (a0 a1 : D) : Option R := run Try.prog cf n 21 [.dt s2 a0 (roAps s2.ks), .dt s2 a1 (roAps s2.ks)] []
noncomputable def L21_17 (n : Nat) (x0 x1 x2 x3 x4 : D) (k : Nat) (ds : List D) : Option R := loopF Try.prog cf n 21 17 (stOf 0 0 144 [(2, xv (.ptr 2 0)), (3, xv (.ptr 3 0)), (4, xv (.ptr 4 0)), (11, xv (.ptr 11 0)), (12, xv (.ptr 12 0))] [(2, .cells s2 x0 (roAps s2.ks)), (3, .cells s2 x1 (roAps s2.ks)), (4, .cells s7 x2 [.ro, .ro, .ro, .nl, .ro, .ro, .ro, .ro]), (11, .cells s2 x3 (roAps s2.ks)), (12, .cells s7 x4 (roAps s7.ks))] [] [2, 3, 4, 11, 12] [2, 3, 4, 11, 12] [2, 3, 4, 11, 12] []) k ds
noncomputable def F22 (n : Nat) (a0 a1 : D) : Option R := run Try.prog cf n 22 [.dt s0 a0 (roAps s0.ks), .dt s4 a1 (roAps s4.ks)] []
noncomputable def L22_1 (n : Nat) (x0 : D) (k : Nat) (ds : List D) : Option R := loopF Try.prog cf n 22 1 (stOf 0 0 32 [(0, .dt s0 x0 (roAps s0.ks))] [] [] [] [] [0] []) k ds
noncomputable def L22_5 (n : Nat) (x0 : D) (k : Nat) (ds : List D) : Option R := loopF Try.prog cf n 22 5 (stOf 0 0 32 [(0, .dt s0 x0 (roAps s0.ks))] [] [] [] [] [0, 0] []) k ds
noncomputable def F23 (n : Nat) (a0 a1 : D) : Option R := run Try.prog cf n 23 [.dt s0 a0 (roAps s0.ks), .dt s4 a1 (roAps s4.ks)] []
noncomputable def L23_4 (n : Nat) (x0 x1 x2 : D) (k : Nat) (ds : List D) : Option R := loopF Try.prog cf n 23 4 (stOf 0 0 114 [(0, .dt s0 x0 (roAps s0.ks)), (1, .dt s4 x1 (roAps s4.ks)), (4, xv (.ptr 4 0))] [(4, .cells s6 x2 (roAps s6.ks))] [] [4] [4] [0, 1, 4] []) k ds
noncomputable def L23_13 (n : Nat) (x0 x1 x2 : D) (k : Nat) (ds : List D) : Option R := loopF Try.prog cf n 23 13 (stOf 0 0 114 [(0, .dt s0 x0 (roAps s0.ks)), (1, .dt s4 x1 (roAps s4.ks)), (4, xv (.ptr 4 0))] [(4, .cells s6 x2 (roAps s6.ks))] [] [4] [4] [0, 1, 4] []) k ds
noncomputable def L23_21 (n : Nat) (x0 x1 x2 : D) (k : Nat) (ds : List D) : Option R := loopF Try.prog cf n 23 21 (stOf 0 0 114 [(0, .dt s0 x0 (roAps s0.ks)), (1, .dt s4 x1 (roAps s4.ks)), (4, xv (.ptr 4 0)), (11, .dt s8 x2 (roAps s8.ks))] [(4, .cells s6 (D.int (0 : Int)) (roAps s6.ks))] [] [] [4] [0, 1, 4, 11] []) k ds
noncomputable def F24 (n : Nat) (a0 : D) : Option R := run Try.prog cf n 24 [.dt s4 a0 (roAps s4.ks)] []
noncomputable def F25 (n : Nat) (a0 a1 a2 : D) : Option R := run Try.prog cf n 25 [.dt s1 a0 (roAps s1.ks), .dt s4 a1 (roAps s4.ks), .dt s0 a2 (roAps s0.ks)] []
noncomputable def F26 (n : Nat) (a0 a1 : D) : Option R := run Try.prog cf n 26 [.dt s1 a0 (roAps s1.ks), .dt s4 a1 (roAps s4.ks)] []
noncomputable def F27 (n : Nat) (a0 a1 a2 a3 : D) : Option R := run Try.prog cf n 27 [.dt s1 a0 (roAps s1.ks), .dt s4 a1 (roAps s4.ks), .dt s4 a2 (roAps s4.ks), .dt s4 a3 (roAps s4.ks)] []
noncomputable def F28 (n : Nat) (a0 : D) : Option R := run Try.prog cf n 28 [.dt s4 a0 (roAps s4.ks)] []
noncomputable def F29 (n : Nat) (a0 a1 : D) : Option R := run Try.prog cf n 29 [.dt s1 a0 (roAps s1.ks), .dt s4 a1 (roAps s4.ks)] []
noncomputable def F30 (n : Nat) (a0 a1 a2 : D) : Option R := run Try.prog cf n 30 [.dt s1 a0 (roAps s1.ks), .dt s4 a1 (roAps s4.ks), .dt s0 a2 (roAps s0.ks)] []
noncomputable def F31 (n : Nat) (a0 a1 : D) : Option R := run Try.prog cf n 31 [.dt s1 a0 (roAps s1.ks), .dt s4 a1 (roAps s4.ks)] []
noncomputable def L31_2 (n : Nat) (x0 : D) (k : Nat) (ds : List D) : Option R := loopF Try.prog cf n 31 2 (stOf 0 0 49 [(0, .dt s1 x0 (roAps s1.ks))] [] [] [] [] [0] []) k ds
noncomputable def F32 (n : Nat) (a0 a1 a2 a3 a4 a5 a6 : D) : Option R := run Try.prog cf n 32 [.dt s1 a0 (roAps s1.ks), .dt s4 a1 (roAps s4.ks), .dt s4 a2 (roAps s4.ks), .dt s4 a3 (roAps s4.ks), .dt s4 a4 (roAps s4.ks), .dt s0 a5 (roAps s0.ks), .dt s3 a6 (roAps s3.ks)] []
noncomputable def F19 (n : Nat) (a1 o0 o1 : D) : Option R := run Try.prog cf n 19 [xv (.ptr 0 0), .dt s2 a1 (roAps s2.ks)] [.cells s5 o0 [.x (.mp 1), .ro, .ro, .ro, .ro, .ro, .ro, .arr 0, .ro, .ro], .map 9 3 o1]
noncomputable def L19_14 (n : Nat) (x0 x1 x2 x3 x4 x5 x6 : D) (k : Nat) (ds : List D) : Option R := loopF Try.prog cf n 19 14 (stOf 2 1 95 [(0, xv (.ptr 0 0)), (3, xv (.ptr 5 0)), (4, xv (.ptr 6 0)), (5, xv (.ptr 7 0)), (6, xv (.ptr 8 0)), (48, .dt s3 x0 (roAps s3.ks)), (49, .dt s4 x1 (roAps s4.ks))] [(0, .cells s5 (D.int (0 : Int)) [.x (.mp 1), .ro, .ro, .ro, .ro, .ro, .ro, .dead, .ro, .ro]), (1, .map 9 3 x2), (5, .cells s2 x3 (roAps s2.ks)), (6, .cells s2 x4 [.ro, .ro, .ro, .nl, .ro, .ro]), (7, .cells s2 x5 (roAps s2.ks)), (8, .cells s2 x6 (roAps s2.ks))] [] [1, 5, 6, 7, 8, 1] [0, 1, 5, 6, 7, 8, 0, 1] [0, 3, 4, 5, 6, 48, 49] []) k ds
noncomputable def F36 (n : Nat) (a0 a1 a2 : D) : Option R := run Try.prog cf n 36 [.dt s2 a0 (roAps s2.ks), .dt s3 a1 (roAps s3.ks), .dt s9 a2 (roAps s9.ks)] []
noncomputable def L36_3 (n : Nat) (x0 x1 x2 : D) (k : Nat) (ds : List D) : Option R := loopF Try.prog cf n 36 3 (stOf 0 0 71 [(1, .dt s3 x0 (roAps s3.ks)), (2, .dt s9 x1 (roAps s9.ks)), (3, xv (.ptr 3 0))] [(3, .cells s2 x2 (roAps s2.ks))] [] [3] [3] [1, 2, 3] []) k ds
noncomputable def L36_6 (n : Nat) (x0 x1 x2 x3 x4 : D) (k : Nat) (ds : List D) : Option R := loopF Try.prog cf n 36 6 (stOf 0 0 71 [(1, .dt s3 x0 (roAps s3.ks)), (2, .dt s9 x1 (roAps s9.ks)), (3, xv (.ptr 3 0)), (9, .dt s3 x2 [.own 71]), (10, .dt s4 x3 (roAps s4.ks))] [(3, .cells s2 x4 (roAps s2.ks))] [(71, true)] [3, 3] [3, 3] [1, 2, 3, 9, 10, 1, 2, 3] [71]) k ds
noncomputable def F37 (n : Nat) (a0 a1 a2 : D) : Option R := run Try.prog cf n 37 [.dt s2 a0 (roAps s2.ks), .dt s8 a1 (roAps s8.ks), .dt s2 a2 (roAps s2.ks)] []
noncomputable def L37_12 (n : Nat) (x0 x1 x2 : D) (k : Nat) (ds : List D) : Option R := loopF Try.prog cf n 37 12 (stOf 0 0 139 [(1, .dt s8 x0 (roAps s8.ks)), (3, xv (.ptr 3 0)), (5, xv (.ptr 5 0)), (6, xv (.ptr 6 0)), (7, xv (.ptr 7 0))] [(3, .cells s2 x1 (roAps s2.ks)), (5, .cells s2 x2 (roAps s2.ks)), (6, .cells s7 (D.int (0 : Int)) (roAps s7.ks)), (7, .cells s2 (D.int (0 : Int)) (roAps s2.ks))] [] [3, 5] [3, 5, 6, 7] [1, 3, 5, 6, 7] []) k ds
noncomputable def F38 (n : Nat) (a0 : D) : Option R := run Try.prog cf n 38 [.dt s10 a0 (roAps s10.ks)] []
noncomputable def F39 (n : Nat) (a0 a1 a2 : D) : Option R := run Try.prog cf n 39 [.dt s0 a0 (roAps s0.ks), .dt s4 a1 (roAps s4.ks), .dt s0 a2 (roAps s0.ks)] []
noncomputable def F40 (n : Nat) (a0 : D) : Option R := run Try.prog cf n 40 [.dt s10 a0 (roAps s10.ks)] []
noncomputable def F41 (n : Nat) (a0 : D) : Option R := run Try.prog cf n 41 [.dt s10 a0 (roAps s10.ks)] []
noncomputable def F43 (n : Nat) : Option R := run Try.prog cf n 43 [] []
noncomputable def F42 (n : Nat) (a0 a1 : D) : Option R := run Try.prog cf n 42 [.dt s0 a0 (roAps s0.ks), .dt s8 a1 (roAps s8.ks)] []
noncomputable def L42_2 (n : Nat) (x0 x1 : D) (k : Nat) (ds : List D) : Option R := loopF Try.prog cf n 42 2 (stOf 0 0 18 [(0, .dt s0 x0 (roAps s0.ks)), (1, .dt s8 x1 (roAps s8.ks))] [] [] [] [] [0, 1] []) k ds
noncomputable def F44 (n : Nat) (a0 : D) : Option R := run Try.prog cf n 44 [.dt s0 a0 (roAps s0.ks)] []
noncomputable def L44_5 (n : Nat) (x0 : D) (k : Nat) (ds : List D) : Option R := loopF Try.prog cf n 44 5 (stOf 0 0 41 [(0, .dt s0 x0 (roAps s0.ks))] [] [] [] [] [0] []) k ds
noncomputable def F45 (n : Nat) : Option R := run Try.prog cf n 45 [] []
noncomputable def F46 (n : Nat) (a0 a1 : D) : Option R := run Try.prog cf n 46 [.dt s1 a0 (roAps s1.ks), .dt s4 a1 (roAps s4.ks)] []
noncomputable def F47 (n : Nat) (a0 a1 : D) : Option R := run Try.prog cf n 47 [.dt s1 a0 (roAps s1.ks), .dt s4 a1 (roAps s4.ks)] []
noncomputable def F48 (n : Nat) (a0 a1 : D) : Option R := run Try.prog cf n 48 [.dt s1 a0 (roAps s1.ks), .dt s4 a1 (roAps s4.ks)] []
noncomputable def L48_7 (n : Nat) (x0 x1 : D) (k : Nat) (ds : List D) : Option R := loopF Try.prog cf n 48 7 (stOf 0 0 55 [(0, .dt s1 x0 (roAps s1.ks)), (1, .dt s4 x1 (roAps s4.ks)), (4, xv (.ptr 4 0))] [(4, .cells s7 (D.int (0 : Int)) (roAps s7.ks))] [] [] [4] [0, 1, 4] []) k ds
noncomputable def F49 (n : Nat) (a0 a1 : D) : Option R := run Try.prog cf n 49 [.dt s1 a0 (roAps s1.ks), .dt s4 a1 (roAps s4.ks)] []
noncomputable def L49_5 (n : Nat) (x0 x1 : D) (k : Nat) (ds : List D) : Option R := loopF Try.prog cf n 49 5 (stOf 0 0 41 [(0, .dt s1 x0 (roAps s1.ks)), (1, .dt s4 x1 (roAps s4.ks)), (4, xv (.ptr 4 0))] [(4, .cells s7 (D.int (0 : Int)) (roAps s7.ks))] [] [] [4] [0, 1, 4] []) k ds
noncomputable def F50 (n : Nat) (a0 a1 : D) : Option R := run Try.prog cf n 50 [.dt s1 a0 (roAps s1.ks), .dt s4 a1 (roAps s4.ks)] []
noncomputable def F33 (n : Nat) (a1 a2 o0 o1 : D) : Option R := run Try.prog cf n 33 [xv (.ptr 0 0), .dt s3 a1 (roAps s3.ks), .dt s9 a2 (roAps s9.ks)] [.cells s5 o0 [.x (.mp 1), .ro, .ro, .ro, .ro, .ro, .ro, .arr 0, .ro, .ro], .map 9 3 o1]
noncomputable def F34 (n : Nat) (a1 o0 o1 : D) : Option R := run Try.prog cf n 34 [xv (.ptr 0 0), .dt s2 a1 (roAps s2.ks)] [.cells s5 o0 [.x (.mp 1), .ro, .ro, .ro, .ro, .ro, .ro, .arr 0, .ro, .ro], .map 9 3 o1]
noncomputable def F35 (n : Nat) (a1 o0 o1 : D) : Option R := run Try.prog cf n 35 [xv (.ptr 0 0), .dt s2 a1 (roAps s2.ks)] [.cells s5 o0 [.x (.mp 1), .ro, .ro, .ro, .ro, .ro, .ro, .arr 0, .ro, .ro], .map 9 3 o1]
noncomputable def F56 (n : Nat) (a0 a1 a2 : D) : Option R := run Try.prog cf n 56 [.dt s2 a0 (roAps s2.ks), .dt s8 a1 (roAps s8.ks), .dt s2 a2 (roAps s2.ks)] []
noncomputable def F57 (n : Nat) (a0 a1 : D) : Option R := run Try.prog cf n 57 [.dt s2 a0 (roAps s2.ks), .dt s0 a1 (roAps s0.ks)] []
noncomputable def F58 (n : Nat) (a0 a1 : D) : Option R := run Try.prog cf n 58 [.dt s2 a0 (roAps s2.ks), .dt s4 a1 (roAps s4.ks)] []
noncomputable def F59 (n : Nat) (a0 a1 : D) : Option R := run Try.prog cf n 59 [.dt s8 a0 (roAps s8.ks), .dt s2 a1 (roAps s2.ks)] []
noncomputable def F60 (n : Nat) (a0 a1 : D) : Option R := run Try.prog cf n 60 [.dt s1 a0 (roAps s1.ks), .dt s4 a1 (roAps s4.ks)] []
noncomputable def F61 (n : Nat) (a0 a1 : D) : Option R := run Try.prog cf n 61 [.dt s1 a0 (roAps s1.ks), .dt s4 a1 (roAps s4.ks)] []
noncomputable def F62 (n : Nat) (a0 a1 : D) : Option R := run Try.prog cf n 62 [.dt s1 a0 (roAps s1.ks), .dt s4 a1 (roAps s4.ks)] []
noncomputable def L62_8 (n : Nat) (x0 x1 x2 x3 : D) (k : Nat) (ds : List D) : Option R := loopF Try.prog cf n 62 8 (stOf 0 0 139 [(0, .dt s1 x0 (roAps s1.ks)), (1, .dt s4 x1 (roAps s4.ks)), (4, xv (.ptr 4 0)), (5, .dt s4 x2 (roAps s4.ks)), (6, .dt s11 x3 (roAps s11.ks))] [(4, .cells s7 (D.int (0 : Int)) (roAps s7.ks))] [] [] [4] [0, 1, 4, 5, 6] []) k ds
noncomputable def F18a (n : Nat) (a1 o0 o1 o2 o3 o4 o5 : D) : Option R := run Try.prog cf n 18 [xv (.ptr 0 0), .dt s3 a1 (roAps s3.ks), xv (.fn 51 [] [.ptr 2 0, .ptr 4 0, .ptr 5 0])] [.cells s5 o0 [.x (.mp 1), .ro, .ro, .ro, .ro, .ro, .ro, .arr 0, .ro, .ro], .map 9 3 o1, .cells s12 o2 [.x (.mp 3)], .map 9 3 o3, .cells s12 o4 [.x (.ptr 0 0)], .cells s9 o5 (roAps s9.ks)]
noncomputable def L18a_3 (n : Nat) (x0 x1 x2 x3 x4 x5 : D) (k : Nat) (ds : List D) : Option R := loopF Try.prog cf n 18 3 (stOf 6 1 29 [(0, xv (.ptr 0 0)), (2, xv (.fn 51 [] [.ptr 2 0, .ptr 4 0, .ptr 5 0])), (10, .dt s3 x0 (roAps s3.ks)), (11, .dt s4 x1 (roAps s4.ks))] [(0, .cells s5 (D.int (0 : Int)) [.x (.mp 1), .ro, .ro, .ro, .ro, .ro, .ro, .dead, .ro, .ro]), (1, .map 9 3 x2), (2, .cells s12 x3 [.x (.mp 3)]), (3, .map 9 3 (D.int (0 : Int))), (4, .cells s12 x4 [.x (.ptr 0 0)]), (5, .cells s9 x5 (roAps s9.ks))] [] [1, 2, 4, 5, 1, 2, 4, 5] [0, 1, 2, 3, 4, 5, 0, 1, 2, 3, 4, 5] [0, 2, 10, 11] []) k ds
noncomputable def F53 (n : Nat) (a1 o0 o1 : D) : Option R := run Try.prog cf n 53 [xv (.ptr 0 0), .dt s2 a1 (roAps s2.ks)] [.cells s5 o0 [.x (.mp 1), .ro, .ro, .ro, .ro, .ro, .ro, .arr 0, .ro, .ro], .map 9 3 o1]
noncomputable def L53_3 (n : Nat) (x0 x1 x2 : D) (k : Nat) (ds : List D) : Option R := loopF Try.prog cf n 53 3 (stOf 2 1 59 [(0, xv (.ptr 0 0)), (3, xv (.ptr 5 0)), (4, xv (.ptr 6 0)), (5, xv (.ptr 7 0))] [(0, .cells s5 x0 [.x (.mp 1), .ro, .ro, .ro, .ro, .ro, .ro, .arr 0, .ro, .ro]), (1, .map 9 3 x1), (5, .cells s2 x2 (roAps s2.ks)), (6, .cells s2 (D.int (0 : Int)) (roAps s2.ks)), (7, .cells s2 (D.int (0 : Int)) (roAps s2.ks))] [(0, true)] [0, 1, 5, 1] [0, 1, 5, 6, 7, 0, 1] [0, 3, 4, 5] [0]) k ds
noncomputable def F54 (n : Nat) (a1 a2 o0 o1 : D) : Option R := run Try.prog cf n 54 [xv (.ptr 0 0), .dt s2 a1 (roAps s2.ks), .dt s13 a2 (roAps s13.ks)] [.cells s5 o0 [.x (.mp 1), .ro, .ro, .ro, .ro, .ro, .ro, .arr 0, .ro, .ro], .map 9 3 o1]
noncomputable def L54_4 (n : Nat) (x0 x1 x2 x3 x4 x5 : D) (k : Nat) (ds : List D) : Option R := loopF Try.prog cf n 54 4 (stOf 2 1 46 [(0, xv (.ptr 0 0)), (4, xv (.ptr 6 0)), (8, .dt s4 x0 (roAps s4.ks)), (23, .dt s13 x1 (roAps s13.ks)), (24, .dt s4 x2 (roAps s4.ks))] [(0, .cells s5 x3 [.x (.mp 1), .ro, .ro, .ro, .ro, .ro, .ro, .arr 0, .ro, .ro]), (1, .map 9 3 x4), (6, .cells s2 x5 (roAps s2.ks))] [(0, true)] [0, 1, 6, 1] [0, 1, 6, 0, 1] [0, 4, 8, 23, 24] [0]) k ds
noncomputable def F18b (n : Nat) (a1 o0 o1 : D) : Option R := run Try.prog cf n 18 [xv (.ptr 0 0), .dt s3 a1 (roAps s3.ks), xv (.fn 34 [.ptr 0 0] [])] [.cells s5 o0 [.x (.mp 1), .ro, .ro, .ro, .ro, .ro, .ro, .arr 0, .ro, .ro], .map 9 3 o1]
noncomputable def L18b_3 (n : Nat) (x0 x1 x2 : D) (k : Nat) (ds : List D) : Option R := loopF Try.prog cf n 18 3 (stOf 2 1 29 [(0, xv (.ptr 0 0)), (2, xv (.fn 34 [.ptr 0 0] [])), (10, .dt s3 x0 (roAps s3.ks)), (11, .dt s4 x1 (roAps s4.ks))] [(0, .cells s5 (D.int (0 : Int)) [.x (.mp 1), .ro, .ro, .ro, .ro, .ro, .ro, .dead, .ro, .ro]), (1, .map 9 3 x2)] [] [1, 1] [0, 1, 0, 1] [0, 2, 10, 11] []) k ds
noncomputable def F18c (n : Nat) (a1 o0 o1 : D) : Option R := run Try.prog cf n 18 [xv (.ptr 0 0), .dt s3 a1 (roAps s3.ks), xv (.fn 55 [.ptr 0 0] [])] [.cells s5 o0 [.x (.mp 1), .ro, .ro, .ro, .ro, .ro, .ro, .arr 0, .ro, .ro], .map 9 3 o1]
noncomputable def L18c_3 (n : Nat) (x0 x1 x2 : D) (k : Nat) (ds : List D) : Option R := loopF Try.prog cf n 18 3 (stOf 2 1 29 [(0, xv (.ptr 0 0)), (2, xv (.fn 55 [.ptr 0 0] [])), (10, .dt s3 x0 (roAps s3.ks)), (11, .dt s4 x1 (roAps s4.ks))] [(0, .cells s5 (D.int (0 : Int)) [.x (.mp 1), .ro, .ro, .ro, .ro, .ro, .ro, .dead, .ro, .ro]), (1, .map 9 3 x2)] [] [1, 1] [0, 1, 0, 1] [0, 2, 10, 11] []) k ds
noncomputable def F64 (n : Nat) (a0 a1 : D) : Option R := run Try.prog cf n 64 [.dt s8 a0 (roAps s8.ks), .dt s0 a1 (roAps s0.ks)] []
noncomputable def L64_2 (n : Nat) (x0 x1 : D) (k : Nat) (ds : List D) : Option R := loopF Try.prog cf n 64 2 (stOf 0 0 23 [(0, .dt s8 x0 (roAps s8.ks)), (1, .dt s0 x1 (roAps s0.ks))] [] [] [] [] [0, 1] []) k ds
noncomputable def F65 (n : Nat) (a0 a1 a2 : D) : Option R := run Try.prog cf n 65 [.dt s1 a0 (roAps s1.ks), .dt s4 a1 (roAps s4.ks), .dt s4 a2 (roAps s4.ks)] []
noncomputable def L65_5 (n : Nat) (x0 x1 x2 : D) (k : Nat) (ds : List D) : Option R := loopF Try.prog cf n 65 5 (stOf 0 0 65 [(0, .dt s1 x0 (roAps s1.ks)), (1, .dt s4 x1 (roAps s4.ks)), (2, .dt s4 x2 (roAps s4.ks)), (6, xv (.ptr 6 0)), (7, xv (.ptr 7 0))] [(6, .cells s7 (D.int (0 : Int)) (roAps s7.ks)), (7, .cells s7 (D.int (0 : Int)) (roAps s7.ks))] [] [] [6, 7] [0, 1, 2, 6, 7] []) k ds
noncomputable def F66 (n : Nat) (a0 a1 a2 a3 a4 : D) : Option R := run Try.prog cf n 66 [.dt s1 a0 (roAps s1.ks), .dt s4 a1 (roAps s4.ks), .dt s9 a2 (roAps s9.ks), .dt s0 a3 (roAps s0.ks), .dt s0 a4 (roAps s0.ks)] []
noncomputable def F67 (n : Nat) (a0 a1 : D) : Option R := run Try.prog cf n 67 [.dt s1 a0 (roAps s1.ks), .dt s4 a1 (roAps s4.ks)] []
noncomputable def F68 (n : Nat) (a0 a1 a2 : D) : Option R := run Try.prog cf n 68 [.dt s1 a0 (roAps s1.ks), .dt s4 a1 (roAps s4.ks), .dt s0 a2 (roAps s0.ks)] []
noncomputable def F51 (n : Nat) (a0 o0 o1 o2 o3 o4 o5 : D) : Option R := run Try.prog cf n 51 [.dt s2 a0 (roAps s2.ks), xv (.ptr 0 0), xv (.ptr 2 0), xv (.ptr 5 0)] [.cells s12 o0 [.x (.mp 1)], .map 9 3 o1, .cells s12 o2 [.x (.ptr 3 0)], .cells s5 o3 [.x (.mp 4), .ro, .ro, .ro, .ro, .ro, .ro, .arr 0, .ro, .ro], .map 9 3 o4, .cells s9 o5 (roAps s9.ks)]
noncomputable def F52 (n : Nat) (a1 a2 o0 o1 : D) : Option R := run Try.prog cf n 52 [xv (.ptr 0 0), .dt s2 a1 (roAps s2.ks), .dt s4 a2 (roAps s4.ks)] [.cells s5 o0 [.x (.mp 1), .ro, .ro, .ro, .ro, .ro, .ro, .arr 0, .ro, .ro], .map 9 3 o1]
noncomputable def F55 (n : Nat) (a1 o0 o1 : D) : Option R := run Try.prog cf n 55 [xv (.ptr 0 0), .dt s2 a1 (roAps s2.ks)] [.cells s5 o0 [.x (.mp 1), .ro, .ro, .ro, .ro, .ro, .ro, .arr 0, .ro, .ro], .map 9 3 o1]
noncomputable def F70 (n : Nat) (a0 a1 : D) : Option R := run Try.prog cf n 70 [.dt s1 a0 (roAps s1.ks), .dt s4 a1 (roAps s4.ks)] []
noncomputable def F71 (n : Nat) (a0 a1 a2 : D) : Option R := run Try.prog cf n 71 [.dt s1 a0 (roAps s1.ks), .dt s4 a1 (roAps s4.ks), .dt s4 a2 (roAps s4.ks)] []
noncomputable def L71_3 (n : Nat) (x0 x1 x2 x3 : D) (k : Nat) (ds : List D) : Option R := loopF Try.prog cf n 71 3 (stOf 0 0 32 [(0, .dt s1 x0 (roAps s1.ks)), (1, .dt s4 x1 (roAps s4.ks)), (7, .dt s8 x2 (roAps s8.ks)), (8, .dt s14 x3 (roAps s14.ks))] [] [] [] [] [0, 1, 7, 8] []) k ds
noncomputable def F72 (n : Nat) (a0 a1 : D) : Option R := run Try.prog cf n 72 [.dt s1 a0 (roAps s1.ks), .dt s4 a1 (roAps s4.ks)] []
noncomputable def L72_2 (n : Nat) (x0 : D) (k : Nat) (ds : List D) : Option R := loopF Try.prog cf n 72 2 (stOf 0 0 37 [(0, .dt s1 x0 (roAps s1.ks))] [] [] [] [] [0] []) k ds
noncomputable def F63 (n : Nat) (a1 o0 o1 : D) : Option R := run Try.prog cf n 63 [xv (.ptr 0 0), .dt s2 a1 (roAps s2.ks)] [.cells s5 o0 [.x (.mp 1), .ro, .ro, .ro, .ro, .ro, .ro, .arr 0, .ro, .ro], .map 9 3 o1]
noncomputable def F73 (n : Nat) (a0 a1 : D) : Option R := run Try.prog cf n 73 [.dt s1 a0 (roAps s1.ks), .dt s4 a1 (roAps s4.ks)] []
noncomputable def L73_2 (n : Nat) (x0 x1 : D) (k : Nat) (ds : List D) : Option R := loopF Try.prog cf n 73 2 (stOf 0 0 75 [(0, .dt s1 x0 (roAps s1.ks)), (1, .dt s4 x1 (roAps s4.ks)), (4, xv (.ptr 4 0)), (5, xv (.ptr 5 0))] [(4, .cells s7 (D.int (0 : Int)) (roAps s7.ks)), (5, .cells s7 (D.int (0 : Int)) (roAps s7.ks))] [] [] [4, 5] [0, 1, 4, 5] []) k ds
noncomputable def F74 (n : Nat) (a0 : D) : Option R := run Try.prog cf n 74 [.dt s4 a0 (roAps s4.ks)] []
noncomputable def F18d (n : Nat) (a1 o0 o1 o2 o3 o4 : D) : Option R := run Try.prog cf n 18 [xv (.ptr 0 0), .dt s3 a1 (roAps s3.ks), xv (.fn 69 [] [.ptr 2 0, .ptr 3 0, .ptr 4 0])] [.cells s5 o0 [.x (.mp 1), .ro, .ro, .ro, .ro, .ro, .ro, .arr 0, .ro, .ro], .map 9 3 o1, .cells s12 o2 [.x (.ptr 0 0)], .cells s2 o3 (roAps s2.ks), .cells s0 o4 (roAps s0.ks)]
noncomputable def L18d_3 (n : Nat) (x0 x1 x2 x3 x4 x5 : D) (k : Nat) (ds : List D) : Option R := loopF Try.prog cf n 18 3 (stOf 5 1 29 [(0, xv (.ptr 0 0)), (2, xv (.fn 69 [] [.ptr 2 0, .ptr 3 0, .ptr 4 0])), (10, .dt s3 x0 (roAps s3.ks)), (11, .dt s4 x1 (roAps s4.ks))] [(0, .cells s5 (D.int (0 : Int)) [.x (.mp 1), .ro, .ro, .ro, .ro, .ro, .ro, .dead, .ro, .ro]), (1, .map 9 3 x2), (2, .cells s12 x3 [.x (.ptr 0 0)]), (3, .cells s2 x4 (roAps s2.ks)), (4, .cells s0 x5 (roAps s0.ks))] [] [1, 2, 3, 4, 1, 2, 3, 4] [0, 1, 2, 3, 4, 0, 1, 2, 3, 4] [0, 2, 10, 11] []) k ds
noncomputable def F69 (n : Nat) (a0 o0 o1 o2 o3 o4 : D) : Option R := run Try.prog cf n 69 [.dt s2 a0 (roAps s2.ks), xv (.ptr 0 0), xv (.ptr 3 0), xv (.ptr 4 0)] [.cells s12 o0 [.x (.ptr 1 0)], .cells s5 o1 [.x (.mp 2), .ro, .ro, .ro, .ro, .ro, .ro, .arr 0, .ro, .ro], .map 9 3 o2, .cells s2 o3 (roAps s2.ks), .cells s0 o4 (roAps s0.ks)]
end Go.Proofs.Ytkimdfpmblhapaa.Va
